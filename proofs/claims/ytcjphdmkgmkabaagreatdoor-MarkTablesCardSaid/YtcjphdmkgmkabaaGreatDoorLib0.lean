/-
  Own work: an abstract machine for the calls of a translated Go program: values by content, a heap of the blocks that the call itself has made, and an evaluator of resolved code. Definitions only.
-/
import GoSem.Step
import Derived.Laws.Sem
import Derived.CallsIn
import Derived.RangeFuncIn
import Derived.OrdersIn
set_option maxHeartbeats 8000000
set_option maxRecDepth 20000
namespace Go.Ab
inductive AV where
 | cM
 | bool (b:Bool)
 | int (k:IntKind) (n:Int)
 | str (s:List UInt8)
 | dj
 | ptr (b off:Nat)
 | vp (l:List AV)
 | aa
 | sl (b off len esz:Nat) (cap:Option Nat)
 | vs (l:List AV) (len:Nat) (cap:Option Nat)
 | eC
 | map (b:Nat)
 | fn (f:Fn) (first captured:List AV)
 | fE
 | iface (t:TypeId) (v:AV)
 | cS
 | agg (l:List AV)
 | au (l:List AV)
 deriving Inhabited
inductive aN where
 | p (i:Nat)
 | l (t:Nat)
 | c (v:AV)
 deriving Inhabited
inductive GU where
 | ptr|slice|map|func
 deriving Inhabited
inductive gK where
 | bool|int|str|ref (k:GU)|iface (guard:Bool)
 | Al (fs:List (Nat×Nat×Bool×gK))
 deriving Inhabited
inductive mc where
 | str|sl|arr (n:Nat)
 deriving Inhabited
inductive iw where
 | int|str
 deriving Inhabited
inductive ba where
 | mv (x:aN)
 | pick (c a b:aN)
 | bin (op:BinOp) (x y:aN)
 | eq (neg:Bool) (t:gK) (x y:aN)
 | un (op:UnOp) (x:aN)
 | dE (k:IntKind) (x:aN)
 | Am (x:aN)
 | An (x:aN)
 | pA (elem:TypeId) (x:aN)
 | kQ (x:aN)
 | ki (u:Option (TypeId×Nat)) (x:aN)
 | nw (neg:Bool) (x y:aN)
 | rn (x:aN)
 | jI (e:TypeId) (x n:aN)
 | rp (esz:Nat) (z:List AV) (x:aN)
 | jJ (x:aN)
 | field (off n:Nat) (agg:Bool) (x:aN)
 | dH (off:Nat) (x:aN)
 | du (arr:Option Nat) (esz:Nat) (x i:aN)
 | index (x i:aN)
 | Ao (len esz:Nat) (agg:Bool) (x i:aN)
 | slice (k:mc) (esz:Nat) (x:aN) (lo hi mx:Option aN)
 | extract (i:Nat) (x:aN)
 | rq (t:TypeId) (x:aN)
 | Ap (t:TypeId) (z:AV) (ok:Bool) (x:aN)
 | ru (f:Fn) (first captured:List aN)
 | build (zero:List AV) (ps:List (Nat×Nat×aN))
 | len (k:mc) (x:aN)
 | cap (x:aN)
 | mm (max:Bool) (xs:List aN)
 | alloc (elem:TypeId) (zero:List AV)
 | box (elem:TypeId) (n:Nat) (x:aN)
 | dQ (elem:TypeId) (len esz:Nat) (zero:List AV) (ps:List (Nat×Nat×aN))
 | load (n:Nat) (agg:Bool) (x:aN)
 | store (n:Nat) (x y:aN)
 | ny
 | gA (elem:TypeId) (esz bytes:Nat) (zero:List AV) (l c:aN)
 | lookup (k:iw) (zero:AV) (x i:aN) (ok:Bool)
 | ry (k:iw) (m i x:aN)
 | range (x:aN)
 | next (x:aN)
 | append (elem:TypeId) (esz bytes:Nat) (x y:aN)
 | copy (esz:Nat) (x y:aN)
 | iG (n esz:Nat) (x:aN) (lo hi:Option aN)
 | rz (x:aN)
 | call (f:aN) (args:List aN)
 | invoke (x:aN) (name:String) (args:List aN)
 deriving Inhabited
inductive eZ where
 | no|p (i:Nat)|l (t:Nat)
 deriving Inhabited
structure aT where
 dst:eZ
 op:ba
 guard:Option (aN×Bool)
 deriving Inhabited
inductive an where
 | skip
 | region (ops:List aT)
 | draw (ops:List (aT×List Nat))
 | seq (a b:an)
 | cond (c:aN) (thn els:an)
 | block (id:Nat) (body:an)
 | loop (body:an)
 | exit (id:Nat)
 | ret
 | rangeFunc (inner:Bool) (f:aN) (ps:List eZ) (assign body:an)
 | bad
 deriving Inhabited
inductive Ex where
 | normal|exit (id:Nat)|ret
 deriving DecidableEq,Inhabited
inductive bw where
 | cells (l:List AV) (elem:TypeId)
 | map (es:List (AV×AV))
 | iter (s:List UInt8) (pos:Nat)
 | gg
 | hole
 | loop (st:LoopState) (pend:Option Ex) (pe:List AV) (ps:List eZ) (assign body:an)
 deriving Inhabited
abbrev ab:=List (Option bw)
inductive fa where
 | var (x:aN)
 | cell (n:Nat) (agg:Bool) (x:aN)
 deriving Inhabited
structure cW where
 N:Nat
 aO:List Nat
 results:List fa
 body:an
 deriving Inhabited
structure St where
 pe:List AV
 lo:List (Nat×AV)
 hp:ab
 bO:List Nat:=[]
 deriving Inhabited
def St.ae (s:St):aN->Option AV
 | .p i=>s.pe[i]?
 | .l t=>s.lo.lookup t
 | .c v=>some v
def St.cE (s:St):List aN->Option (List AV)
 | []=>some []
 | x::xs=>match s.ae x with
   | some v=>match s.cE xs with
     | some vs=>some (v::vs)
     | none=>none
   | none=>none
def St.cT (s:St):Option aN->Option (Option AV)
 | none=>some none
 | some x=>(s.ae x).map some
def St.put (s:St)(d:eZ)(v:AV):St:=
 match d with
 | .no=>s
 | .p i=>{ s with pe:=s.pe.set i v }
 | .l t=>{ s with lo:=(t,v)::s.lo }
def AV.cells:AV->Option (List AV)
 | .cM=>none
 | .agg l=>some l
 | v=>some [v]
def cG:AV->Bool
 | .cM | .agg _ | .au _=>false
 | _=>true
def cut (l:List AV)(off n:Nat):Option (List AV):=
 let r:=(l.drop off).take n
 if r.length=n then some r else none
def partOf (l:List AV)(off n:Nat)(agg:Bool):Option AV:=
 if agg then (cut l off n).map .agg else l[off]?
def overwrite (l:List AV)(off:Nat)(new:List AV):List AV:=
 l.take off++new++l.drop (off+new.length)
def kR:List AV->List (Nat×Nat×AV)->Option (List AV)
 | cs,[]=>some cs
 | cs,(off,n,v)::rest=>match v.cells with
   | some l=>if l.length=n/\off+n<=cs.length then kR (overwrite cs off l) rest else none
   | none=>none
def St.parts (s:St):List (Nat×Nat×aN)->Option (List (Nat×Nat×AV))
 | []=>some []
 | (o,n,x)::r=>match s.ae x with
   | some v=>match s.parts r with
     | some vs=>some ((o,n,v)::vs)
     | none=>none
   | none=>none
def rA:AV->Option Int
 | .int _ n=>some n
 | _=>none
def ab.at (h:ab)(b:Nat):Option bw:=(h[b]?).join
def fo (h:ab):AV->Option (List AV)
 | .ptr b off=>match h.at b with|some (.cells l _)=>some (l.drop off)|_=>none
 | .vp l=>some l
 | _=>none
def ek (h:ab):AV->Option (List AV×Nat)
 | .aa=>some ([],0)
 | .vs l n _=>some (l,n)
 | .sl b off n esz _=>match h.at b with
   | some (.cells l _)=>(cut l off (n*esz)).map (·,n)
   | _=>if n=0 then some ([],0) else none
 | .str s=>some (s.map fun c=>.int .u8 c.toNat,s.length)
 | _=>none
def jn:GU->AV->AV->Option Bool
 | .ptr,.dj,.dj=>some true
 | .ptr,.dj,.ptr _ _=>some false
 | .ptr,.dj,.vp _=>some false
 | .ptr,.ptr _ _,.dj=>some false
 | .ptr,.vp _,.dj=>some false
 | .slice,.aa,.aa=>some true
 | .slice,.aa,.sl _ _ (_+1) _ _=>some false
 | .slice,.sl _ _ (_+1) _ _,.aa=>some false
 | .slice,.aa,.sl _ _ 0 _ (some _)=>some false
 | .slice,.sl _ _ 0 _ (some _),.aa=>some false
 | .slice,.aa,.vs (_::_) _ _=>some false
 | .slice,.vs (_::_) _ _,.aa=>some false
 | .map,.eC,.eC=>some true
 | .map,.eC,.map _=>some false
 | .map,.map _,.eC=>some false
 | .func,.fE,.fE=>some true
 | .func,.fE,.fn _ _ _=>some false
 | .func,.fn _ _ _,.fE=>some false
 | _,_,_=>none
def goEq (rec:gK->AV->AV->Option Bool):List (Nat×Nat×Bool×gK)->List AV->List AV->Option Bool
 | [],_,_=>some true
 | (off,n,ag,t)::rest,xs,ys=>
  match partOf xs off n ag,partOf ys off n ag with
  | some x,some y=>match rec t x y with
    | some true=>goEq rec rest xs ys
    | some false=>some false
    | none=>none
  | _,_=>none
def eo:Nat->gK->AV->AV->Option Bool
 | 0,_,_,_=>none
 | d+1,t,x,y=>
  match t,x,y with
  | .bool,.bool a,.bool b=>some (a == b)
  | .int,.int k a,.int k' b=>if k=k' then some (a == b) else none
  | .str,.str a,.str b=>some (a == b)
  | .ref k,x,y=>jn k x y
  | .iface g,.cS,.cS=>if g then none else some true
  | .iface _,.cS,.iface _ _=>some false
  | .iface _,.iface _ _,.cS=>some false
  | .Al fs,.agg xs,.agg ys=>goEq (fun t x y=>eo d t x y) fs xs ys
  | _,_,_=>none
def cK (op:BinOp)(x y:AV):Option AV:=
 match x,y with
 | .int k a,.int k' b=>
  match op with
  | .shl=>if b<0 then none else some (.int k (k.wrap (a*2^(min b.toNat k.bits))))
  | .shr=>if b<0 then none else some (.int k (a.fdiv (2^(min b.toNat k.bits))))
  | op=>if k=k' then
      match op with
      | .add=>some (.int k (k.wrap (a+b)))
      | .sub=>some (.int k (k.wrap (a-b)))
      | .mul=>some (.int k (k.wrap (a*b)))
      | .quo=>if b=0 then none else some (.int k (k.wrap (a.tdiv b)))
      | .rem=>if b=0 then none else some (.int k (a.tmod b))
      | .and=>some (.int k (k.wrap (BitVec.ofInt k.bits a &&& BitVec.ofInt k.bits b).toNat))
      | .or=>some (.int k (k.wrap (BitVec.ofInt k.bits a ||| BitVec.ofInt k.bits b).toNat))
      | .xor=>some (.int k (k.wrap (BitVec.ofInt k.bits a ^^^ BitVec.ofInt k.bits b).toNat))
      | .andNot=>some (.int k (k.wrap (BitVec.ofInt k.bits a &&& ~~~ BitVec.ofInt k.bits b).toNat))
      | .eql=>some (.bool (a == b))
      | .neq=>some (.bool (a != b))
      | .lss=>some (.bool (a<b))
      | .leq=>some (.bool (a<=b))
      | .gtr=>some (.bool (a > b))
      | .geq=>some (.bool (a>=b))
      | _=>none
    else none
 | .str a,.str b=>
  match op with
  | .add=>if a.length+b.length<2^62 then some (.str (a++b)) else none
  | .eql=>some (.bool (a == b))
  | .neq=>some (.bool !(a == b))
  | .lss=>some (.bool (Op.bytesLess a b))
  | .leq=>some (.bool (Op.bytesLess a b || a == b))
  | .gtr=>some (.bool !(Op.bytesLess a b || a == b))
  | .geq=>some (.bool !(Op.bytesLess a b))
  | _=>none
 | _,_=>none
def rB (op:UnOp)(x:AV):Option AV:=
 match op,x with
 | .neg,.int k n=>some (.int k (k.wrap (0-n)))
 | .not,.bool b=>some (.bool !b)
 | .xor,.int k n=>some (.int k (k.wrap (BitVec.ofInt k.bits (if k.signed then -1 else k.max) ^^^ BitVec.ofInt k.bits n).toNat))
 | _,_=>none
def me (k:IntKind)(x:AV):Option AV:=
 match x with
 | .int _ n=>some (.int k (k.wrap n))
 | _=>none
def Aq (off:Nat)(x:AV):Option AV:=
 match x with
 | .ptr b o=>some (.ptr b (o+off))
 | .vp l=>some (.vp (l.drop off))
 | _=>none
def nz (arr:Option Nat)(esz:Nat)(x i:AV):Option AV:=
 match i with
 | .int _ n=>
  match arr,x with
  | some len,.ptr b o=>if 0<=n/\n<len then some (.ptr b (o+n.toNat*esz)) else none
  | some len,.vp l=>if 0<=n/\n<len then some (.vp (l.drop (n.toNat*esz))) else none
  | none,.sl b o len e _=>if 0<=n/\n<len/\e=esz then some (.ptr b (o+n.toNat*esz)) else none
  | none,.vs l len _=>if 0<=n/\n<len then some (.vp (l.drop (n.toNat*esz))) else none
  | _,_=>none
 | _=>none
def ur (x i:AV):Option AV:=
 match x,i with
 | .str s,.int _ n=>if 0<=n then (s[n.toNat]?).map fun c=>.int .u8 c.toNat else none
 | _,_=>none
def bK (x:Option AV)(dflt most:Nat):Option Nat:=
 match x with
 | none=>some dflt
 | some (.int _ n)=>if 0<=n/\n<=most then some n.toNat else none
 | some _=>none
def jo (k:mc)(esz:Nat)(x:AV)(lo hi mx:Option AV):Option AV:=
 match k,x,mx with
 | .str,.str s,none=>
  match bK hi s.length s.length with
  | some h=>match bK lo 0 h with
    | some l=>some (.str ((s.drop l).take (h-l)))
    | none=>none
  | none=>none
 | .sl,.aa,none=>
  match bK hi 0 0,bK lo 0 0 with
  | some _,some _=>some .aa
  | _,_=>none
 | .sl,.aa,some m=>
  match bK (some m) 0 0,bK hi 0 0,bK lo 0 0 with
  | some _,some _,some _=>some .aa
  | _,_,_=>none
 | .sl,.sl b o len e cap,none=>
  if e=esz then
   match bK hi len (cap.getD len) with
   | some h=>match bK lo 0 h with
     | some l=>
      if l<h then some (.sl b (o+l*esz) (h-l) esz (cap.map (· - l)))
      else some (.vs [] 0 (cap.map (· - l)))
     | none=>none
   | none=>none
  else none
 | .sl,.sl b o len e cap,some m=>
  if e=esz then
   match bK (some m) len (cap.getD len) with
   | some m=>match bK hi len m with
     | some h=>match bK lo 0 h with
       | some l=>
        if l<h then some (.sl b (o+l*esz) (h-l) esz (some (m-l)))
        else some (.vs [] 0 (some (m-l)))
       | none=>none
     | none=>none
   | none=>none
  else none
 | .sl,.vs c len cap,none=>
  match bK hi len len with
  | some h=>match bK lo 0 h with
    | some l=>some (.vs ((c.drop (l*esz)).take ((h-l)*esz)) (h-l) (cap.map (· - l)))
    | none=>none
  | none=>none
 | .sl,.vs c len _,some m=>
  match bK (some m) len len with
  | some m=>match bK hi len m with
    | some h=>match bK lo 0 h with
      | some l=>some (.vs ((c.drop (l*esz)).take ((h-l)*esz)) (h-l) (some (m-l)))
      | none=>none
    | none=>none
  | none=>none
 | _,_,_=>none
def uu (k:mc)(x:AV):Option AV:=
 match k,x with
 | .str,.str s=>some (.int .i64 s.length)
 | .sl,.aa=>some (.int .i64 0)
 | .sl,.sl _ _ n _ _=>some (.int .i64 n)
 | .sl,.vs _ n _=>some (.int .i64 n)
 | _,_=>none
def nC (max:Bool):AV->List AV->Option AV
 | x,[]=>some x
 | .int k a,.int k' b::rest=>
  if k=k' then nC max (.int k (if max then (if b > a then b else a) else (if b<a then b else a))) rest else none
 | _,_=>none
def Ar (x:AV):Option AV:=
 match x with
 | .ptr _ _ | .vp _=>some x
 | .fn (.func _) _ _=>some x
 | .fn (.yield _) _ _=>some x
 | _=>none
def aV (s:St)(io:ba):Option AV:=
 match io with
 | .mv x=>s.ae x
 | .pick c a b=>match s.ae c,s.ae a,s.ae b with
   | some (.bool t),some a,some b=>some (if t then a else b)
   | some (.bool t),some a,none=>if t then some a else none
   | some (.bool t),none,some b=>if t then none else some b
   | _,_,_=>none
 | .bin op x y=>match s.ae x,s.ae y with
   | some a,some b=>cK op a b
   | _,_=>none
 | .eq neg t x y=>match s.ae x,s.ae y with
   | some a,some b=>match eo 100 t a b with
     | some r=>some (.bool (if neg then !r else r))
     | none=>none
   | _,_=>none
 | .un op x=>(s.ae x).bind (rB op)
 | .dE k x=>(s.ae x).bind (me k)
 | .Am x=>match s.ae x with
   | some (.int _ n)=>some (.str (Utf8.encode n).data.toList)
   | _=>none
 | .An x=>match s.ae x with
   | some (.str t)=>some (.str t)
   | _=>none
 | .jJ x=>(s.ae x).bind Ar
 | .field off n ag x=>match s.ae x with
   | some (.agg l)=>partOf l off n ag
   | _=>none
 | .dH off x=>(s.ae x).bind (Aq off)
 | .du arr esz x i=>match s.ae x,s.ae i with
   | some a,some b=>nz arr esz a b
   | _,_=>none
 | .index x i=>match s.ae x,s.ae i with
   | some a,some b=>ur a b
   | _,_=>none
 | .Ao len esz ag x i=>match s.ae x,s.ae i with
   | some (.agg l),some (.int _ n)=>if 0<=n/\n<len then partOf l (n.toNat*esz) esz ag else none
   | _,_=>none
 | .slice k esz x lo hi mx=>match s.ae x with
   | some a=>
    match s.cT lo,s.cT hi,s.cT mx with
    | some l,some h,some m=>if m.isNone || h.isSome then jo k esz a l h m else none
    | _,_,_=>none
   | none=>none
 | .extract i x=>match s.ae x with
   | some (.au l)=>l[i]?
   | _=>none
 | .rq t x=>(s.ae x).map (.iface t)
 | .Ap t z ok x=>match s.ae x with
   | some (.iface u v)=>if u=t then some (if ok then .au [v,.bool true] else v) else if ok then some (.au [z,.bool false]) else none
   | some .cS=>if ok then some (.au [z,.bool false]) else none
   | _=>none
 | .ru f fi ca=>match s.cE fi,s.cE ca with
   | some a,some b=>some (.fn f a b)
   | _,_=>none
 | .build zero ps=>match s.parts ps with
   | some vs=>(kR zero vs).map .agg
   | none=>none
 | .len k x=>match k with
   | .arr n=>some (.int .i64 n)
   | k=>(s.ae x).bind (uu k)
 | .cap x=>match s.ae x with
   | some .aa=>some (.int .i64 0)
   | some (.sl _ _ _ _ (some c))=>some (.int .i64 c)
   | some (.vs _ _ (some c))=>some (.int .i64 c)
   | _=>none
 | .mm mx xs=>match s.cE xs with
   | some (.int k a::rest)=>nC mx (.int k a) rest
   | _=>none
 | .rn x=>match s.ae x with
   | some .aa=>some .dj
   | some (.sl b o (_+1) _ _)=>some (.ptr b o)
   | _=>none
 | _=>none
def ba.bA:ba->Bool
 | .alloc .. | .box .. | .dQ .. | .load .. | .store .. | .ny | .gA .. | .lookup .. | .ry .. | .range .. | .next .. | .append .. | .copy .. | .iG .. | .rz .. | .call .. | .invoke .. | .kQ .. | .pA .. | .ki .. | .nw .. | .jI .. | .rp .. => true
 | _=>false
def uv:List (Nat×Nat×aN)->List aN
 | []=>[]
 | (_,_,x)::r=>x::uv r
def ba.gB:ba->List aN
 | .mv x | .un _ x | .dE _ x | .Am x | .An x | .pA _ x | .kQ x | .jJ x | .field _ _ _ x | .dH _ x | .extract _ x | .rq _ x
 | .len _ x | .cap x | .box _ _ x | .load _ _ x | .range x | .next x | .rz x | .ki _ x | .rn x | .Ap _ _ _ x | .rp _ _ x=>[x]
 | .pick c a b=>[c,a,b]
 | .bin _ x y | .eq _ _ x y | .du _ _ x y | .index x y | .Ao _ _ _ x y | .store _ x y | .gA _ _ _ _ x y | .lookup _ _ x y _ | .append _ _ _ x y | .copy _ x y | .nw _ x y | .jI _ x y=>[x,y]
 | .slice _ _ x lo hi mx=>x::(lo.toList++hi.toList++mx.toList)
 | .iG _ _ x lo hi=>x::(lo.toList++hi.toList)
 | .ru _ fi ca=>fi++ca
 | .build _ ps | .dQ _ _ _ _ ps=>uv ps
 | .mm _ xs=>xs
 | .alloc .. | .ny=>[]
 | .ry _ m i x=>[m,i,x]
 | .call f as | .invoke f _ as=>f::as
def aT.gB (o:aT):List aN:=(match o.guard with|some (x,_)=>[x]|none=>[])++o.op.gB
def dR:eZ->aN->Bool
 | .p i,.p j=>i == j
 | .l t,.l u=>t == u
 | _,_=>false
def GV:eZ->eZ->Bool
 | .p i,.p j=>i == j
 | .l t,.l u=>t == u
 | _,_=>false
def pB (a b:aT):Bool:=(b.gB.all fun x=>!dR a.dst x) && (a.gB.all fun x=>!dR b.dst x) && !GV a.dst b.dst
structure HR where
 v:AV
 h:ab
 wr:List Nat
def cm:AV:=.au []
def ab.put (h:ab)(b:Nat)(o:Option bw):ab:=h.set b o
def rC:AV->AV->Option Bool
 | .int k a,.int k' b=>if k=k' then some (a == b) else none
 | .str a,.str b=>some (a == b)
 | _,_=>none
def kS (k:AV):List (AV×AV)->Nat->Option (Option (Nat×AV))
 | [],_=>some none
 | (k',v)::r,i=>match rC k k' with
   | some true=>some (some (i,v))
   | some false=>kS k r (i+1)
   | none=>none
def iw.ok:iw->AV->Bool
 | .int,.int _ _=>true
 | .str,.str _=>true
 | _,_=>false
def gh (zero:List AV):Nat->List AV
 | 0=>[]
 | n+1=>zero++gh zero n
def bytesOf:List AV->Option (List UInt8)
 | []=>some []
 | .int .u8 n::r=>match bytesOf r with
   | some l=>some (UInt8.ofNat n.toNat::l)
   | none=>none
 | _=>none
def dv:Nat:=2^46
def gM (elem:TypeId)(esz bytes:Nat)(h:ab)(x y:AV):Option HR:=
 match ek h y with
 | none=>none
 | some (new,n)=>
  if new.length=n*esz/\0<bytes/\new.all cG=true then
   match x with
   | .aa=>
    if n=0 then some ⟨.aa,h,[]⟩
    else if n*bytes<=dv then some ⟨.sl h.length 0 n esz none,h++[some (.cells new elem)],[]⟩ else none
   | .vs l len cap=>
    if n=0 then some ⟨x,h,[]⟩ else
    match cap with
    | some c=>if c<len+n/\(len+n)*bytes<=dv/\l.length=len*esz then some ⟨.sl h.length 0 (len+n) esz none,h++[some (.cells (l++new) elem)],[]⟩ else none
    | none=>none
   | .sl b off len e cap=>
    if n=0 then some ⟨x,h,[]⟩ else
    if e=esz/\(len+n)*bytes<=dv then
     match h.at b with
     | some (.cells l el)=>
      match cap with
      | some c=>
       if len+n<=c then
        if off+(len+n)*esz<=l.length then some ⟨.sl b off (len+n) esz cap,h.put b (some (.cells (overwrite l (off+len*esz) new) el)),[b]⟩ else none
       else match cut l off (len*esz) with
        | some bR=>some ⟨.sl h.length 0 (len+n) esz none,h++[some (.cells (bR++new) elem)],[]⟩
        | none=>none
      | none=>
       if l.length=off+len*esz/\el=elem then
        some ⟨.sl h.length 0 (len+n) esz none,h.put b none++[some (.cells (l.drop off++new) elem)],[b]⟩
       else none
     | _=>none
    else none
   | _=>none
  else none
def bB (s:St)(io:ba)(h:ab):Option HR:=
 match io with
 | .alloc elem zero=>some ⟨.ptr h.length 0,h++[some (.cells zero elem)],[]⟩
 | .box elem n x=>match (s.ae x).bind AV.cells with
   | some l=>if l.length=n then some ⟨.ptr h.length 0,h++[some (.cells l elem)],[]⟩ else none
   | none=>none
 | .dQ elem len esz zero ps=>match s.parts ps with
   | some vs=>match kR (gh zero len) vs with
     | some l=>if l.length=len*esz then some ⟨.sl h.length 0 len esz (some len),h++[some (.cells l elem)],[]⟩ else none
     | none=>none
   | none=>none
 | .load n ag x=>match (s.ae x).bind (fo h) with
   | some l=>match partOf l 0 n ag with
     | some v=>some ⟨v,h,[]⟩
     | none=>none
   | none=>none
 | .store n x y=>match s.ae x,(s.ae y).bind AV.cells with
   | some (.ptr b off),some new=>match h.at b with
     | some (.cells l el)=>if new.length=n/\off+n<=l.length/\new.all cG=true then some ⟨cm,h.put b (some (.cells (overwrite l off new) el)),[b]⟩ else none
     | _=>none
   | _,_=>none
 | .ny=>some ⟨.map h.length,h++[some (.map [])],[]⟩
 | .gA elem esz bytes zero l c=>match (s.ae l).bind rA,(s.ae c).bind rA with
   | some a,some b=>
    if 0<=a/\a<=b/\b.toNat*bytes<=dv/\b<=2^46/\zero.length=esz then some ⟨.sl h.length 0 a.toNat esz (some b.toNat),h++[some (.cells (gh zero b.toNat) elem)],[]⟩ else none
   | _,_=>none
 | .lookup kt zero x i ok=>match s.ae x,s.ae i with
   | some m,some k=>
    if kt.ok k then
     let es? : Option (List (AV×AV)):=match m with
      | .eC=>some []
      | .map b=>match h.at b with|some (.map es)=>some es|_=>none
      | _=>none
     match es? with
     | some es=>match kS k es 0 with
       | some r=>
        let v:=match r with|some (_,v)=>v|none=>zero
        some ⟨if ok then .au [v,.bool r.isSome] else v,h,[]⟩
       | none=>none
     | none=>none
    else none
   | _,_=>none
 | .ry kt m i x=>match s.ae m,s.ae i,s.ae x with
   | some (.map b),some k,some v=>
    if kt.ok k then
     match h.at b with
     | some (.map es)=>match kS k es 0 with
       | some (some (j,_))=>some ⟨cm,h.put b (some (.map (es.set j (k,v)))),[b]⟩
       | some none=>some ⟨cm,h.put b (some (.map (es++[(k,v)]))),[b]⟩
       | none=>none
     | _=>none
    else none
   | _,_,_=>none
 | .range x=>match s.ae x with
   | some (.str t)=>some ⟨.ptr h.length 0,h++[some (.iter t 0)],[]⟩
   | _=>none
 | .next x=>match s.ae x with
   | some (.ptr b 0)=>match h.at b with
     | some (.iter t pos)=>
      if pos<t.length then
       let (c,w):=Utf8.decode ⟨t.toArray⟩ pos
       some ⟨.au [.bool true,.int .i64 pos,.int .i32 c],h.put b (some (.iter t (pos+w))),[b]⟩
      else some ⟨.au [.bool false],h,[]⟩
     | _=>none
   | _=>none
 | .append elem esz bytes x y=>match s.ae x,s.ae y with
   | some a,some b=>gM elem esz bytes h a b
   | _,_=>none
 | .rp esz z x=>match s.ae x with
   | some (.sl b off len e _)=>
    if e=esz/\z.all cG=true/\z.length=esz/\0<len then
     match h.at b with
     | some (.cells l el)=>if off+len*esz<=l.length then some ⟨.au [],h.put b (some (.cells (overwrite l off (gh z len)) el)),[b]⟩ else none
     | _=>none
    else none
   | some (.vs [] 0 _)=>some ⟨.au [],h,[]⟩
   | some .aa=>some ⟨.au [],h,[]⟩
   | _=>none
 | .copy esz x y=>match s.ae x,s.ae y with
   | some (.sl b off len e _),some y=>
    match ek h y with
    | some (src,n)=>
     if e=esz/\src.length=n*esz/\src.all cG=true then
      let m:=min n len
      match h.at b with
      | some (.cells l el)=>if off+m*esz<=l.length then some ⟨.int .i64 m,h.put b (some (.cells (overwrite l off (src.take (m*esz))) el)),[b]⟩ else none
      | _=>none
     else none
    | none=>none
   | some .aa,some y=>match ek h y with
     | some (src,n)=>if src.length=n*esz then some ⟨.int .i64 0,h,[]⟩ else none
     | none=>none
   | _,_=>none
 | .iG n esz x lo hi=>match s.ae x,s.cT lo,s.cT hi with
   | some (.ptr b o),some lo,some hi=>match h.at b with
     | some (.cells l _)=>
      if o+n*esz<=l.length then
       match bK hi n n with
       | some hh=>match bK lo 0 hh with
         | some ll=>some ⟨if ll<n then .sl b (o+ll*esz) (hh-ll) esz (some (n-ll)) else .vs [] 0 (some 0),h,[]⟩
         | none=>none
       | none=>none
      else none
     | _=>none
   | _,_,_=>none
 | .rz x=>match s.ae x with
   | some (.map b)=>match h.at b with
     | some (.map es)=>some ⟨.int .i64 es.length,h,[]⟩
     | _=>none
   | some .eC=>some ⟨.int .i64 0,h,[]⟩
   | _=>none
 | .pA elem x=>match s.ae x with
   | some (.str t)=>some ⟨.sl h.length 0 t.length 1 none,h++[some (.cells (t.map fun c=>.int .u8 c.toNat) elem)],[]⟩
   | _=>none
 | .kQ x=>match s.ae x with
   | some (.str _)=>none
   | some y=>match ek h y with
     | some (l,n)=>if l.length=n then
         match bytesOf l with
         | some t=>some ⟨.str t,h,[]⟩
         | none=>none
       else none
     | none=>none
   | none=>none
 | .ki u x=>match s.ae x with
   | some (.ptr b o)=>match h.at b with
     | some (.cells l e)=>
      if o<l.length/\(match u with|none=>true|some (t,n)=>decide (o=0/\e=t/\l.length=n))=true then some ⟨.ptr b o,h,[]⟩ else none
     | _=>none
   | _=>none
 | .nw neg x y=>match s.ae x,s.ae y with
   | some (.ptr b o),some (.ptr b' o')=>match h.at b with
     | some (.cells _ _)=>if b=b'/\o=o' then some ⟨.bool !neg,h,[]⟩ else none
     | _=>none
   | _,_=>none
 | .jI e x n=>match s.ae x,s.ae n with
   | some .dj,some (.int _ k)=>if k=0 then some ⟨.str [],h,[]⟩ else none
   | some (.ptr b o),some (.int _ k)=>
    if 0<k/\k<=2^46 then
     match h.at b with
     | some (.cells l el)=>
      if el=e then
       match cut l o k.toNat with
       | some c=>match bytesOf c with
         | some t=>some ⟨.str t,h.put b none,[b]⟩
         | none=>none
       | none=>none
      else none
     | _=>none
    else none
   | _,_=>none
 | _=>none
abbrev dS:=AV->List AV->ab->Option HR
abbrev fF:=TypeId->String->Option FuncId
def bI (call:dS)(inv:fF)(s:St)(io:ba):Option HR:=
 match io with
 | .call f args=>match s.ae f,s.cE args with
   | some g,some as=>call g as s.hp
   | _,_=>none
 | .invoke x name args=>match s.ae x,s.cE args with
   | some (.iface t v),some as=>match inv t name with
     | some f=>call (.fn (.func f) [] []) (v::as) s.hp
     | none=>none
   | _,_=>none
 | io=>if io.bA then bB s io s.hp else (aV s io).map fun v=>⟨v,s.hp,[]⟩
def dI (s:St)(g:Option (aN×Bool)):Option Bool:=
 match g with
 | none=>some true
 | some (x,want)=>match s.ae x with
   | some (.bool b)=>some (b == want)
   | some (.au _)=>some false
   | _=>none
structure aq where
 s:St
 wr:List Nat
def eE (call:dS)(inv:fF):List aT->aq->Option aq
 | [],s=>some s
 | o::rest,s=>match dI s.s o.guard with
   | some true=>match bI call inv s.s o.op with
     | some r=>eE call inv rest ⟨{ s.s.put o.dst r.v with hp:=r.h },r.wr++s.wr⟩
     | none=>none
   | some false=>eE call inv rest ⟨s.s.put o.dst cm,s.wr⟩
   | none=>none
def mask (h:ab)(U:List Nat):ab:=U.foldl (fun h b=>h.set b none) h
def cj (T:List Nat):ab->Nat->ab
 | [],_=>[]
 | o::r,i=>(if T.contains i then o else none)::cj T r (i+1)
def dT (wr:List Nat):ab->ab->Nat->ab
 | o::h,n::h',i=>(if wr.contains i then n else o)::dT wr h h' (i+1)
 | [],h',_=>h'
 | h,[],_=>h
def iP (s:St)(io:ba):Option (List Nat):=
 let cQ (x:aN):List Nat:=match s.ae x with
  | some (.ptr b _)=>[b]
  | some (.sl b _ _ _ _)=>[b]
  | some (.map b)=>[b]
  | _=>[]
 match io with
 | .alloc .. | .box .. | .dQ .. | .ny | .gA .. | .range _ | .pA .. => some []
 | .load _ _ x | .next x | .rz x | .kQ x | .store _ x _ | .lookup _ _ x _ _ | .ry _ x _ _=>some (cQ x)
 | .append _ _ _ x y | .copy _ x y | .nw _ x y=>some (cQ x++cQ y)
 | .ki _ x | .jI _ x _ | .rp _ _ x=>some (cQ x)
 | .iG _ _ x _ _=>some (cQ x)
 | .call .. | .invoke .. => none
 | _=>some []
structure bV where
 kj:Option (List Nat)
 wr:List Nat
 lo:Nat
 hi:Nat
def bV.own (d:bV):List Nat:=d.wr++List.range' d.lo (d.hi-d.lo)
def gC (a b:List Nat):Bool:=a.all fun x=>!b.contains x
def dF (call:dS)(inv:fF):List (aT×List Nat)->aq->List bV->Option aq
 | [],s,_=>some s
 | (o,un)::rest,s,ds=>match dI s.s o.guard with
   | some true=>
    if o.op.bA then
     let U:=un.flatMap fun j=>(ds[j]?).elim [] bV.own
     let t:=iP s.s o.op
     if (match t with|some T=>gC T U|none=>true) then
      let h0:=match t with|some T=>cj T s.s.hp 0|none=>mask s.s.hp U
      match bI call inv { s.s with hp:=h0 } o.op with
      | some r=>
       if (r.wr.all fun b=>(h0.at b).isSome) && (r.wr.isEmpty || un.all (fun j=>match ds[j]? with|some d=>(match d.kj with|some T=>gC r.wr T|none=>false)|none=>false)) then
        dF call inv rest ⟨{ s.s.put o.dst r.v with hp:=dT r.wr s.s.hp r.h 0 },r.wr++s.wr⟩ (ds++[⟨t,r.wr,s.s.hp.length,r.h.length⟩])
       else none
      | none=>none
     else none
    else match aV s.s o.op with
     | some v=>dF call inv rest ⟨s.s.put o.dst v,s.wr⟩ (ds++[⟨some [],[],s.s.hp.length,s.s.hp.length⟩])
     | none=>none
   | some false=>dF call inv rest ⟨s.s.put o.dst cm,s.wr⟩ (ds++[⟨some [],[],s.s.hp.length,s.s.hp.length⟩])
   | none=>none
mutual
def AV.top:AV->Nat
 | .ptr b _=>b+1
 | .sl b _ _ _ _=>b+1
 | .map b=>b+1
 | .vp l=>bh l
 | .vs l _ _=>bh l
 | .fn f a b=>max (match f with | .yield l=>l+1|_=>0) (max (bh a) (bh b))
 | .iface _ v=>v.top
 | .agg l=>bh l
 | .au l=>bh l
 | _=>0
def bh:List AV->Nat
 | []=>0
 | v::r=>max v.top (bh r)
end
def bw.top:bw->Nat
 | .cells l _=>bh l
 | .map es=>nD es
 | .iter _ _=>0
 | .gg=>0
 | .hole=>0
 | .loop _ _ pe _ _ _=>bh pe
where
 nD:List (AV×AV)->Nat
  | []=>0
  | (k,v)::r=>max (max k.top v.top) (nD r)
def tight (h:ab)(n:Nat)(wr:List Nat):Bool:=
 wr.all fun b=>match h.at b with
  | some o=>b>=n || o.top<=n
  | none=>true
def cX (s:St):List fa->Option (List AV)
 | []=>some []
 | r::rest=>
  let v? : Option AV:=match r with
   | .var x=>s.ae x
   | .cell n ag x=>(s.ae x).bind fun p=>(fo s.hp p).bind fun l=>partOf l 0 n ag
  match v?,cX s rest with
  | some v,some vs=>some (v::vs)
  | _,_=>none
def aU:List AV->AV
 | [v]=>v
 | vs=>.au vs
def dU (v:AV)(n:Nat)(s:aq):HR:=
 if v.top<=n && tight s.s.hp n s.wr then ⟨v,s.s.hp.take n,s.wr.filter (· < n)⟩
 else ⟨v,s.s.hp,s.wr.filter (· < n)⟩
def kT:List Nat->aq->Option aq
 | [],s=>some s
 | d::r,s=>match s.s.hp.at d with
   | some .gg=>kT r ⟨{ s.s with hp:=s.s.hp.put d none },d::s.wr⟩
   | _=>none
def pC (s:St):List eZ->List AV->Option St
 | [],[]=>some s
 | d::ds,v::vs=>pC (s.put d v) ds vs
 | _,_=>none
def gD (run:an->aq->Option (Ex×aq))(FT:FuncId->Option cW)(f:FuncId)(all:List AV)(h:ab):Option HR:=
 match FT f with
 | some fi=>
  if fi.N<all.length then none else
  match run fi.body ⟨⟨fi.aO.map (fun t=>(all[t]?).getD cm),[],h,[]⟩,[]⟩ with
  | some (e,s)=>
   if e = .normal\/e = .ret then
    match kT s.s.bO s with
    | some s=>match cX s.s fi.results with
      | some vs=>some (dU (aU vs) h.length s)
      | none=>none
    | none=>none
   else none
  | none=>none
 | none=>none
def gW (run:an->aq->Option (Ex×aq))(ext:FuncId->List AV->ab->Option HR)(FT:FuncId->Option cW):dS:=fun g as h=>
 match g with
 | .fn (.func f) first cap=>
  match ext f (first++as++cap) h with
  | some r=>some r
  | none=>gD run FT f (first++as++cap) h
 | .fn (.yield b) [] []=>
  match h.at b with
  | some (.loop .ready none pe ps a bd)=>
   match pC ⟨pe,[],h,[]⟩ ps as with
   | some s0=>match run a ⟨s0,[]⟩ with
     | some (.normal,s1)=>match s1.s.hp.at b with
       | some (.loop .ready none pe' ps' a' bd')=>
        match run bd ⟨{ s1.s with hp:=s1.s.hp.put b (some (.loop .busy none pe' ps' a' bd')) },b::s1.wr⟩ with
        | some (e,s2)=>match s2.s.hp.at b,s2.s.bO with
          | some (.loop .busy none pe' ps' a' bd'),[]=>
           let o:bw:=if e = .normal then .loop .ready none pe' ps' a' bd' else .loop .done (some e) pe' ps' a' bd'
           some (dU (.bool (decide (e = .normal))) h.length ⟨{ s2.s with hp:=s2.s.hp.put b (some o) },b::s2.wr⟩)
          | _,_=>none
        | none=>none
       | _=>none
     | _=>none
   | none=>none
  | _=>none
 | _=>none
def bj (ext:FuncId->List AV->ab->Option HR)(inv:fF)(FT:FuncId->Option cW):Nat->an->aq->Option (Ex×aq)
 | 0,_,_=>none
 | n+1,c,s=>
  match c with
  | .skip=>some (.normal,s)
  | .seq a b=>match bj ext inv FT n a s with
    | some (.normal,s')=>bj ext inv FT n b s'
    | r=>r
  | .cond x a b=>match s.s.ae x with
    | some (.bool t)=>bj ext inv FT n (if t then a else b) s
    | _=>none
  | .block id c=>match bj ext inv FT n c s with
    | some (.exit id',s')=>if id'=id then some (.normal,s') else some (.exit id',s')
    | r=>r
  | .loop c=>match bj ext inv FT n c s with
    | some (.normal,s')=>bj ext inv FT n (.loop c) s'
    | r=>r
  | .exit id=>some (.exit id,s)
  | .ret=>some (.ret,s)
  | .region ops=>match eE (gW (bj ext inv FT n) ext FT) inv ops ⟨{ s.s with lo:=[] },s.wr⟩ with
    | some s'=>some (.normal,s')
    | none=>none
  | .draw ops=>match dF (gW (bj ext inv FT n) ext FT) inv ops ⟨{ s.s with lo:=[] },s.wr⟩ [] with
    | some s'=>some (.normal,s')
    | none=>none
  | .rangeFunc inner f ps a b=>
   if inner then none else
   match s.s.ae f with
   | some (.fn (.func g) fi ca)=>
    match gD (bj ext inv FT n) FT g (fi++[.fn (.yield (s.s.hp.length+1)) [] []]++ca) (s.s.hp++[some .gg,some (.loop .ready none s.s.pe ps a b)]) with
    | some r=>match r.h.at (s.s.hp.length+1) with
      | some (.loop st pend pe' ps' a' b')=>
       if st = .busy then none else
       some (pend.getD .normal,⟨{ s.s with hp:=r.h.put (s.s.hp.length+1) (some (.loop .exhausted pend pe' ps' a' b')),bO:=s.s.hp.length::s.s.bO },(s.s.hp.length+1)::r.wr++s.wr⟩)
      | _=>none
    | none=>none
   | _=>none
  | .bad=>none
end Go.Ab
namespace Go.Ab
structure GQ (Q:Prop):Prop where
 q:Q
theorem gc {P Q:Prop}(q:Q)(h:GQ Q->P:=by
 intro gq;first|apply ads|apply dw|apply adt|apply adP|apply ahQ|apply afP|apply ajF|apply afX|apply mf|apply QH|apply uw|apply As|apply QI|(apply QJ;exact rfl)|apply QK|apply QL|apply QM|apply QN|(apply ajG;exact rfl)|apply agJ|apply agV|(apply ajH;exact rfl)|(apply agW;exact rfl)|(apply ahC;exact rfl;exact rfl;(first|(simp only[List.nil_append,List.cons_append];exact rfl)|exact rfl))|(apply aiz;exact rfl;(first|(simp only[List.nil_append,List.cons_append];exact rfl)|exact rfl);(first|(simp only[List.nil_append,List.cons_append];exact rfl)|exact rfl))|(apply aiA;exact rfl)|(apply aff;exact rfl)|(apply agf;exact rfl)|(apply agG;exact rfl)|(apply ahb;exact rfl)|(apply agL;exact rfl)|(apply aiL;exact rfl)|(apply ajg;exact rfl)|(apply ajh;exact rfl;omega)|(apply aji;exact rfl;omega)|(apply agp;exact rfl;exact rfl)|(apply ago;exact rfl;exact rfl)|(apply aip;exact rfl;exact rfl;omega)|(apply ahc;exact rfl;exact rfl;omega)|(apply ajj;exact rfl;exact rfl;omega)|(apply ajk;exact rfl;exact rfl;first|omega|(simp only[List.length_append,List.length_cons,List.length_nil];omega)|(simp;omega))|(apply aiq;exact rfl;exact rfl;omega)|(apply ajl;exact rfl;exact rfl;omega)|(apply air;exact rfl;exact rfl;omega)|(apply ajI;exact rfl;exact rfl;omega)|(apply aiB;exact rfl;exact fun _=>rfl;(first|omega|(simp only[List.length_set];omega)|(simp;omega));decide;exact rfl;case ia=>infer_instance)|(apply ajJ;exact rfl;(first|exact rfl|assumption|exact cU|(apply dL;assumption)|(apply fx;first|assumption|(simp only[eH];assumption)));exact fun _=>rfl;(first|omega|(simp only[List.length_set];omega)|(simp;omega));decide;exact rfl;case ia=>infer_instance)|(apply aiM;exact rfl;exact fun _=>rfl;(first|omega|(simp only[List.length_set];omega)|(simp;omega));decide;exact rfl;case ia=>infer_instance)|(apply ajK;exact rfl;omega)|(apply ade;exact rfl;exact rfl;exact rfl)|(apply agt;exact rfl;exact rfl;exact rfl)|(apply aiN;exact rfl;exact rfl;exact rfl)|(apply aak;exact rfl;exact rfl)|(apply adU;exact rfl;exact rfl)
 exact gq.1):P:=h ⟨q⟩
theorem gd0 {P Q:Prop}(q:Q)(h:GQ Q->P:=by
 intro gq
 (apply aal;exact rfl;exact rfl;first|(focus (apply_assumption -exfalso -symm;done))|(focus (apply_assumption -exfalso -symm;exact uA rfl rfl rfl))|(focus (apply_assumption -exfalso -symm;exact rfl)))
 exact gq.1):P:=h ⟨q⟩
theorem gd1 {P Q:Prop}(q:Q)(h:GQ Q->P:=by
 intro gq
 (apply ahy;exact rfl;exact rfl;(first|(simp only[List.nil_append,List.cons_append];exact rfl)|exact rfl);first|(focus (apply_assumption -exfalso -symm;done))|(focus (apply_assumption -exfalso -symm;exact uA rfl rfl rfl))|(focus (apply_assumption -exfalso -symm;exact rfl)))
 exact gq.1):P:=h ⟨q⟩
theorem gd2 {P Q:Prop}(q:Q)(h:GQ Q->P:=by
 intro gq
 (apply aiO;exact rfl;(first|exact cU|assumption|exact dL cU|exact dL (dL cU)|exact dL (dL (dL cU))|exact fx (by simp)|((repeat apply dL);assumption));exact rfl)
 exact gq.1):P:=h ⟨q⟩
theorem gd3 {P Q:Prop}(q:Q)(h:GQ Q->P:=by
 intro gq
 (apply aiC;exact rfl;exact rfl;exact⟨rfl,by first|exact Nat.le_refl _|decide|(simp[overwrite]),rfl⟩;exact rfl)
 exact gq.1):P:=h ⟨q⟩
theorem gd4 {P Q:Prop}(q:Q)(h:GQ Q->P:=by
 intro gq
 (apply aeT;exact rfl;exact rfl;first|exact q)
 exact gq.1):P:=h ⟨q⟩
theorem gd5 {P Q:Prop}(q:Q)(h:GQ Q->P:=by
 intro gq
 (apply ais;exact rfl;exact rfl;omega)
 exact gq.1):P:=h ⟨q⟩
theorem gd6 {P Q:Prop}(q:Q)(h:GQ Q->P:=by
 intro gq
 (apply aiP;exact rfl;exact rfl;omega)
 exact gq.1):P:=h ⟨q⟩
theorem gd7 {P Q:Prop}(q:Q)(h:GQ Q->P:=by
 intro gq
 (apply adX;exact rfl;exact rfl;exact rfl;exact⟨rfl,Nat.le_refl _,by simp[overwrite,fO,iR,o5,o6]⟩;exact rfl)
 exact gq.1):P:=h ⟨q⟩
theorem gd8 {P Q:Prop}(q:Q)(h:GQ Q->P:=by
 intro gq
 (apply ail;exact congrArg (fun z=>some (AV.ptr 0 z)) eI;exact rfl;exact rfl;omega)
 exact gq.1):P:=h ⟨q⟩
theorem gd9 {P Q:Prop}(q:Q)(h:GQ Q->P:=by
 intro gq
 (apply aeT;exact rfl;exact rfl;first|exact hc)
 exact gq.1):P:=h ⟨q⟩
theorem gd11 {P Q:Prop}(q:Q)(h:GQ Q->P:=by
 intro gq
 (apply adX;exact rfl;exact rfl;exact rfl;exact⟨rfl,Nat.le_refl _,mi o0⟩;exact rfl)
 exact gq.1):P:=h ⟨q⟩
theorem gd12 {P Q:Prop}(q:Q)(h:GQ Q->P:=by
 intro gq
 (apply aiD;exact rfl;exact rfl;exact rfl)
 exact gq.1):P:=h ⟨q⟩
theorem gd13 {P Q:Prop}(q:Q)(h:GQ Q->P:=by
 intro gq
 (apply agq (s:=u) (r:=bot);exact rfl;exact rfl;omega;exact e2')
 exact gq.1):P:=h ⟨q⟩
theorem gd14 {P Q:Prop}(q:Q)(h:GQ Q->P:=by
 intro gq
 (apply aeT;exact rfl;exact rfl;first|exact q1 _)
 exact gq.1):P:=h ⟨q⟩
theorem gd15 {P Q:Prop}(q:Q)(h:GQ Q->P:=by
 intro gq
 (apply ahR (a:=4294967296);exact rfl;exact rfl;omega)
 exact gq.1):P:=h ⟨q⟩
theorem gd16 {P Q:Prop}(q:Q)(h:GQ Q->P:=by
 intro gq
 (apply ahR (a:=q) (b:=y0);exact rfl;exact rfl;rw[←hP];exact hm)
 exact gq.1):P:=h ⟨q⟩
theorem gd17 {P Q:Prop}(q:Q)(h:GQ Q->P:=by
 intro gq
 (apply agv (s:=u) (r:=top);exact rfl;exact rfl;omega;exact etk)
 exact gq.1):P:=h ⟨q⟩
theorem gd18 {P Q:Prop}(q:Q)(h:GQ Q->P:=by
 intro gq
 (apply aiE (i:=k+2);exact rfl;exact hl;omega;omega)
 exact gq.1):P:=h ⟨q⟩
theorem gd19 {P Q:Prop}(q:Q)(h:GQ Q->P:=by
 intro gq
 (apply adX;exact rfl;exact rfl;exact rfl;exact⟨rfl,Nat.le_refl _,by first|exact mi o1|exact mi o2⟩;exact rfl)
 exact gq.1):P:=h ⟨q⟩
theorem gd20 {P Q:Prop}(q:Q)(h:GQ Q->P:=by
 intro gq
 (apply aal;exact rfl;exact rfl;exact q72 _ _ (QR rfl))
 exact gq.1):P:=h ⟨q⟩
theorem gd21 {P Q:Prop}(q:Q)(h:GQ Q->P:=by
 intro gq
 (apply adX;exact rfl;exact rfl;exact rfl;exact⟨rfl,Nat.le_refl _,by simp[overwrite,fO,iR,o1]⟩;exact rfl)
 exact gq.1):P:=h ⟨q⟩
theorem gg0 {P:Prop}(h:P:=by
 repeat' first|refine gd1 ?_|(apply ajm (s:=iT);rfl;rfl;rfl;omega;exact hc)|(apply ajm (s:=uF);rfl;rfl;rfl;omega;exact hc)|(refine bS.app (f:=iC) (m:=[a[((i:Int)).toNat]! - y-c+1000000000]) (S:=[]) (fun _=>rfl) (fun _=>rfl) (by decide) (ho.grow [_]) (by simp) rfl rfl (Sl.iJ (f:=iC) (esz:=1) (l:=[a[((i:Int)).toNat]! - y-c+1000000000]) (e:=3) (fun _=>rfl) cU rfl) hroom (fun H w' o' ho' hk hlen=>?_))|(refine bS.app (f:=iC) (m:=[a[((i:Int)).toNat]! - y-c]) (S:=[]) (fun _=>rfl) (fun _=>rfl) (by decide) (ho.grow [_]) (by simp) rfl rfl (Sl.iJ (f:=iC) (esz:=1) (l:=[a[((i:Int)).toNat]! - y-c]) (e:=3) (fun _=>rfl) cU rfl) hroom (fun H w' o' ho' hk hlen=>?_))|(apply ajn;rfl;exact hkl;omega)|(apply ajo;rfl;rfl;exact hkl;omega)|(apply aiF;exact congrArg (fun z=>some (AV.ptr bq z)) eP;rfl;exact hq2;omega)|(apply abt;rfl;rfl)|(apply aal;rfl;rfl;first|exact q250)|refine gd4 ?_|(apply aeT;rfl;rfl;first|exact q1)|(apply aeT;rfl;rfl;first|exact q0)|refine gc ?_|(intro _;omega)|intro _
 all_goals first|omega|exact⟨.inr rfl,rfl,_,rfl,rfl,rfl⟩|exact hQ _ _|exact⟨.inr rfl,rfl,_,rfl,.same (by simp[aU,AV.top,bh,fU]) (by simp[aU,bG,cA,kY])⟩|exact cn rfl rfl (.same rfl rfl)|exact h1 (by simp[dD]) _ _ _|exact h1 (by simp[dD]) _ _|exact hQ L c a5 a6 _ _ hl bE hc (hz _ (Nat.le_refl _)) hv|exact hQ L c a5 a6 _ _ hl bE hc hv|exact hQ L c a7 a8 a9 aA aB _ _ hl bE hc hz hv|exact hQ L bo ca _ _ _ _ _ _ hL oL ht hbo hca hw hv|exact hQ L ca _ _ _ hL oL ht hca hw hv|exact hQ D _ _ _ hD oD hv|exact h2 (by omega) _ _|exact h2 he _ _ _|exact fQ (ih' _ _ _ (by omega) hQ)|exact hQ L c _ _ _ hl bE hc hz hv|exact hQ L bo _ _ _ _ hL oL hbo hv|exact hQ L ca _ _ _ hL oL hca hv|exact hN _ _ _ _ _ _ hl hH hO|exact⟨.inr rfl,rfl,rfl,rfl,_,rfl,by rw[hf];rfl⟩|exact⟨.inr rfl,rfl,⟨[],by simp⟩,by simp,_,rfl,rfl⟩|exact next _ 1 _ _ _ _ _ ho' (by decide) (by omega) (by omega)|exact next _ 0 _ _ _ _ _ ho' (by decide) (by omega) (by omega)|exact⟨.inr rfl,rfl,_,rfl,[],⟨ix,jK,rfl⟩,gm.zero rfl⟩|exact⟨.inr rfl,rfl,_,rfl,_,⟨g1,g2,by rw[g3,hv]⟩,hout⟩|exact⟨.inr rfl,rfl,_,rfl,[],⟨ix,jK,hv⟩,gm.Hc (S:=[]) (.inr ⟨k,cap,by simp,rfl,hk,hcap⟩)⟩|exact⟨.inr rfl,rfl,_,rfl,[],⟨ix,jK,hv⟩,_,.nil,rfl,rfl⟩|exact fin (q-1) _ L2 _ _ _ _ _ _ _ _ _ _ _ _ ⟨by omega,by omega⟩ hL2 oL2 hz0 vL2 hlt rfl|exact fin q _ L1 _ _ _ _ _ _ _ _ _ _ _ _ q0 hL1 oL1 hz0 vL1 hlt rfl):P:=h
theorem gg1 {P:Prop}(h:P:=by
 repeat' first|(apply agq (r:=t);rfl;rfl;omega;exact e')|(apply aiQ;rfl;rfl;omega)|(apply aiR;rfl)|(apply adX;rfl;rfl;rfl;exact⟨rfl,Nat.le_refl _,by simp[overwrite,fO,iR,o4]⟩;rfl)|(exact tl _ _ _ _ _)|(apply agq (s:=s) (r:=u);rfl;rfl;omega;exact hc1)|refine gd17 ?_|(apply aeX;rfl;rfl;all_goals first|(intro h;exact absurd h hz)|intro _)|(apply ahU;exact congrArg (fun z=>some (AV.ptr b z)) ei;exact hb;omega)|(refine fin (r+1) _ _ (by omega) (by rw[←he,e]))|(apply acs;rfl;rfl)|(apply acJ;rfl;rfl)|refine gd0 ?_|refine gc ?_|(intro _;omega)|intro _
 all_goals first|omega|exact⟨.inr rfl,rfl,_,rfl,rfl,rfl⟩|exact cn rfl rfl (.same rfl rfl)|exact fin s2 so w2 wo _ _ (i+i) j h2 ho (by rw[Nat.add_mul];omega)|exact hQ _):P:=h
theorem gg2 {P:Prop}(h:P:=by
 repeat' first|(apply agq (r:=t);rfl;rfl;omega;exact e1)|(apply ajL;rfl)|(exact Hd C ⟨hp,by omega⟩ hs.1 _ _ _ _)|(exact tl _ _ _ _)|(apply ajM (v:=D);rfl;rfl;omega;omega;exact hD.symm)|(apply ajN (v:=R);rfl;rfl;omega;omega;exact hR.symm)|(refine bS.app (f:=iC) (m:=[R]) (S:=[]) (fun _=>rfl) (fun _=>rfl) (by decide) (ho.grow [_]) (by simp) rfl rfl (Sl.iJ (f:=iC) (esz:=1) (l:=[R]) (e:=3) (fun _=>rfl) cU rfl) hroom (fun H w' o' ho' hk hlen=>?_))|(apply abt;rfl;rfl)|(apply acs;rfl;rfl)|(apply adW;rfl;rfl)|refine gd0 ?_|refine gd3 ?_|refine gd2 ?_|refine gc ?_|(intro _;omega)|intro _
 all_goals first|omega|exact⟨.inr rfl,rfl,_,rfl,rfl,rfl⟩|exact cn rfl rfl (.same rfl rfl)|exact cn rfl rfl (out _)|exact iU (.inr rfl) rfl rfl rfl rfl|exact hN (fun h=>absurd h (Nat.lt_irrefl 0)) _ _|exact h1 he _ _ _|exact fQ (ih (i+1) _ _ _ (by omega) he h1 h2)|exact⟨.inr rfl,rfl,_,rfl,acc,⟨oA,hv,by omega⟩,gm.Hc ho⟩|exact⟨.inr rfl,rfl,_,rfl,congrArg AV.bool (by simp[isName];omega),rfl⟩|exact cN ⟨_,_,_,rfl,ha'⟩|exact cN ⟨n+1-(i+1),by omega,i+1,acc++[R],o',D,_,_,_,_,rfl,rfl,by omega,hD0,by omega,jq oA (fun z hz=>by rw[List.mem_singleton.1 hz];exact⟨by omega,by show _<(1000000000:Int);omega⟩),by simp[lA],ho',hval⟩|exact cN ⟨_,_,_,_,rfl,ha' hz⟩):P:=h
theorem gg3 {P:Prop}(h:P:=by
 repeat' first|(apply ahZ;rfl;exact hb;rfl)|(refine bS.app (f:=jr) (m:=[zs++aQ R]) (S:=[1]) (fun _=>rfl) (fun _=>rfl) (by decide) (ho.grow [_]) (by simp;omega) rfl rfl (Sl.iJ (f:=jr) (esz:=1) (l:=[zs++aQ R]) (e:=9) (fun _=>rfl) cU rfl) hroom (fun H w' o' ho' hk hlen=>?_))|(refine fin 0 _ _ (by omega) (by rw[←he];rfl))|refine gd14 ?_|refine gd3 ?_|(apply acs;rfl;rfl)|refine gd4 ?_|(apply ajO;rfl;rfl;exact hb)|(apply aal;rfl;rfl;first|exact q253|exact q263 _|exact q264 _)|refine gc ?_|(intro _;omega)|intro _
 all_goals first|omega|exact⟨.inr rfl,rfl,⟨_,rfl⟩,by simp,_,uH rfl cU,rfl⟩|exact hQ _|exact cn rfl rfl (fin _ _)|exact cn rfl rfl (.same rfl rfl)|exact hQ _ _ _ _ _ _ _ _ ho|exact⟨.inr rfl,rfl,⟨[],by simp⟩,by simp,_,rfl,rfl⟩|exact⟨.inr rfl,rfl,_,rfl,rfl,rfl⟩|exact⟨.inl rfl,rfl,rfl,rfl,[],rfl,rfl⟩|exact⟨.inr rfl,rfl,rfl,rfl,_,rfl,rfl⟩|exact fin _ _ _ _ _ _ _ ho' (hk _ _ (by simp) (dL hK))|exact hQ _ _ _ _ _ _ _ ho|exact⟨.inl rfl,rfl,_,rfl,hw,hL⟩|exact hQ _ _ _ _ _ _ _ _ ho'|exact hQ _ _ _ _ _ _ hv|exact hQ _ _ _ _ _ _ h9 hDt oA (by omega) hv ho hK|exact main false _ _ (fun e st h=>by rw[e1];exact h)|exact⟨.inr rfl,rfl,_,rfl,A,oA,nA,hv,fin⟩|exact⟨.inr rfl,rfl,_,rfl,xA,A,hxA,oA,nA,hv,lA,fin⟩):P:=h
theorem gg4 {P:Prop}(h:P:=by
 repeat' first|(apply agv (r:=t);rfl;rfl;omega;exact e')|(apply adX;rfl;rfl;exact hK;exact⟨rfl,Nat.le_refl _,by rw[List.all_cons,List.all_cons,List.all_nil,hone];rfl⟩;rfl)|(apply ahz;rfl;rfl;all_goals first|(intro h;exact absurd h h0)|intro _)|refine gd18 ?_|(apply aiG (i:=k+2);rfl;rfl;exact hl;omega;omega)|(apply adW;rfl;rfl)|refine gd1 ?_|(apply acJ;rfl;rfl)|refine gd0 ?_|(apply aeX;rfl;rfl;all_goals first|(intro h;exact absurd h (by decide))|(intro h;exact absurd rfl h)|(intro h;contradiction)|intro _)|(apply aeT;rfl;rfl;first|exact q196)|(apply adX;rfl;rfl;rfl;exact⟨rfl,Nat.le_refl _,by simp[overwrite,fO,iR,og,o3,o4]⟩;rfl)|refine gc ?_|(intro _;omega)|intro _
 all_goals first|omega|exact⟨.inr rfl,rfl,_,rfl,rfl,rfl⟩|exact cn rfl rfl (out _)|exact cn rfl rfl (.same rfl rfl)|exact⟨.inr rfl,rfl,_,uH rfl (fx hK1),v0,k0,o0⟩|exact hQ _ _ _ _ _ _ _ _ x hx e|exact⟨.inr rfl,rfl,_,rfl,q,_,fin,rfl,hw2,rfl⟩):P:=h
theorem gg5 {P:Prop}(h:P:=by
 repeat' first|(apply adU (op:=.index _ _) (v:=.int .u8 48);rfl;rfl)|(apply agv (s:=nH);rfl;rfl;omega;exact hd)|(apply abt;rfl;rfl)|(apply adW;rfl;rfl)|refine gd12 ?_|(apply ajh (a:=1);rfl;omega)|(apply acs;rfl;rfl)|refine gd1 ?_|(apply acJ;rfl;rfl)|refine gd0 ?_|(apply afd;rfl;rfl)|(apply agM;rfl;rfl)|refine gd20 ?_|refine gc ?_|(intro _;omega)|intro _
 all_goals first|omega|exact⟨.inr rfl,rfl,_,rfl,rfl,rfl⟩|exact next _ _ _|exact⟨.inr rfl,rfl,_,rfl,congrArg AV.bool (by simp[isName, *] <;> omega),rfl⟩|exact h1 _ _ _ (by rw[bg,if_pos (by omega)]) _|exact h1 (by omega) _ _|exact fQ (ih (i+1) _ _ _ (by omega) (by omega) h1 h2)|exact cN ⟨_,_,rfl,ha'⟩|exact h1 _ _ _ (by rw[bg,if_neg (by omega),if_pos (by omega)]) _|exact fQ (ih _ _ _ (by omega) hd2 h1 h2)|exact⟨.inr rfl,rfl,_,rfl,Az hE (by decide) _⟩|exact cN ⟨_,_,_,_,rfl,ha' rfl⟩):P:=h
theorem gg6 {P:Prop}(h:P:=by
 repeat' first|(apply akm;rfl;omega)|(apply agq;rfl;rfl;omega;exact h1)|refine gd0 ?_|(apply aeX;rfl;rfl;all_goals first|(intro h;exact absurd rfl h)|intro _)|(apply aiS;exact congrArg (fun z=>some (AV.ptr b z)) ei;exact hb;omega)|(apply aiT (k:=.i64) (r:=r);rfl;exact congrArg (fun z=>some (AV.int .i64 z)) er;omega;(intro c hc';have:=hc c hc';omega))|(apply ajP (f:=iC) (l:=L);rfl;rfl;(intro _;rfl);omega)|(exact tl _ _ _ _ _ _)|(apply agq (r:=v);rfl;rfl;omega;exact e1)|(apply acs;rfl;rfl)|(apply acJ;rfl;rfl)|refine gc ?_|(intro _;omega)|intro _
 all_goals first|omega|exact⟨.inr rfl,rfl,_,rfl,rfl,rfl⟩|exact cn rfl rfl (.same rfl rfl)|exact h1 (by simp[AD]) _ _ _ _ _ _ _|exact⟨.inr rfl,rfl,rfl,rfl,_,rfl,rfl⟩|exact hQ _ _ _ _ _ _ q0 I.ge hfin|exact⟨.inr rfl,rfl,_,rfl,.same rfl rfl⟩|exact main true _ _ (fun e st h=>h)|exact fQ (ih _ _ (by omega) (e.symm.trans he) hQ)|exact hQ _|exact fQ (next _)):P:=h
theorem gg7 {P Q:Prop}(q:Q)(h:GQ Q->P:=by
 intro gq;repeat' first|(apply ajn;rfl;exact hkl;omega)|(apply ajo;rfl;rfl;exact hkl;omega)|(apply ahU;exact congrArg (fun z=>some (AV.ptr hp.length z)) eI;exact cU;omega)|(apply aiU (n:=s);rfl;rfl;rfl;omega)|(apply ajp s;rfl;rfl;exact⟨gL.1,hlt⟩;exact hm;omega;exact hd)|(apply ajq;exact congrArg (fun z=>some (AV.ptr hp.length z)) eI;rfl;omega)|(apply ajq;exact congrArg (fun z=>some (AV.ptr hp.length z)) eJ;rfl;(rw[List.length_set];omega))|(apply ait (n:=64-s);rfl;rfl;omega;omega)|(apply aiD;rfl;exact hb;exact hpart)|(apply ajQ;rfl;rfl;omega)|(apply abt;rfl;rfl)|refine gd4 ?_|(apply acs;rfl;rfl)|refine gc ?_|(intro _;omega)|intro _|(omega)|exact gq.1):P:=h ⟨q⟩
theorem gg8 {P:Prop}(h:P:=by
 repeat' first|(apply ajR;rfl)|(apply ajS i (k+3);rfl;rfl;rfl;rfl;omega;omega;omega)|(apply aeT;rfl;rfl;first|exact hct)|(apply ail;exact congrArg (fun z=>some (AV.ptr 2 z)) eI;rfl;rfl;omega)|refine gd1 ?_|refine gd8 ?_|(apply Hg hn hlt)|(apply agv;rfl;rfl;omega;exact hd)|(apply aeX;rfl;rfl;intro _;rotate_left;(intro h;exact absurd rfl h))|(apply aeX;rfl;rfl;(intro h;exact absurd (List.cons.inj h).1 hc);intro _)|(apply afd;rfl;rfl)|(apply aeT;rfl;rfl;first|exact q265)|refine gc ?_|(intro _;omega)|intro _
 all_goals first|omega|exact⟨.inr rfl,rfl,_,rfl,rfl,rfl⟩|exact next _ _|exact hQ L re _ _ hL oL hre (by rw[hv];simp[WV])|exact hQ U L _ _ hU oU hL oL hv1 hv2|exact hQ _ _ _ _ _ _ _ _ _ _ _ hm h8 hL hw|exact hQ _ _ _ hB hK|exact h2 (by rw[hd,Int.sub_self];rfl) _ _|exact hQ L re _ _ _ hL oL hre (by rw[hv];simp[WV])|exact hQ U L K _ _ _ _ _ _ _ _ _ _ _ hU oU hL oL hv1 hv2 hKu hKq hKf|exact⟨i,by omega,hin,rfl,hU,hL,hw⟩|exact fQ (ih H _ _ (by omega) hc' hB' (by omega))):P:=h
theorem gg9 {P:Prop}(h:P:=by
 repeat' first|refine gd19 ?_|(apply adX;rfl;rfl;rfl;exact⟨rfl,Nat.le_refl _,by first|exact mi o1|exact mi o2|exact mi o3|exact mi o4⟩;rfl)|refine gd11 ?_|refine gd12 ?_|(refine bS.app (f:=jr) (m:=[zs++[48]]) (S:=[1]) (fun _=>rfl) (fun _=>rfl) (by decide) (ho.grow [_]) (by simp;omega) rfl rfl (Sl.iJ (f:=jr) (esz:=1) (l:=[zs++[48]]) (e:=9) (fun _=>rfl) cU rfl) hroom (fun H w' o' ho' hk hlen=>?_))|(rw[hg])|(apply acs;rfl;rfl)|refine gd9 ?_|refine gd0 ?_|refine gd1 ?_|(apply aal;rfl;rfl;exact q206 _ _ _ _ rfl)|(apply aal;rfl;rfl;first|exact q253|exact q264 _)|refine gc ?_|(intro _;omega)|intro _
 all_goals first|omega|exact⟨.inr rfl,rfl,_,rfl,rfl,rfl⟩|exact cn rfl rfl (out _)|exact hQ _|exact fin _ _ _ _ _ _ _ ho' (hk _ _ (by simp) (dL hK))):P:=h
theorem gg10 {P:Prop}(h:P:=by
 repeat' first|(exact tl _ _ _ _ _ _ _ _ _ _)|(apply aiH;rfl;rfl;exact hl;exact hy.1)|(apply aiE (i:=k);rfl;exact hl;omega;omega)|(apply abt;rfl;rfl)|(apply aiI (i:=k);rfl;exact hb;exact hne;omega;omega)|refine gd6 ?_|(apply ajr;rfl;rfl;exact hl.1;exact hy.1)|refine gd1 ?_|(apply acJ;rfl;rfl)|(apply aiI (i:=k+1);rfl;exact hb;exact hne;omega;omega)|refine gd0 ?_|(apply agM;rfl;rfl)|refine gd2 ?_|refine gc ?_|(intro _;omega)|intro _
 all_goals first|omega|exact⟨.inr rfl,rfl,_,rfl,rfl,rfl⟩|exact⟨.inr rfl,rfl,⟨_,rfl⟩,by simp,_,rfl,by simp[aU];try omega⟩|exact⟨.inr rfl,rfl,_,rfl,by rw[Int.zero_mul,Int.zero_add];rfl,rfl⟩|exact hQ _ _ _ _ _ _ q0 I.ge hfin|exact cN ⟨(q-1).toNat,by omega,q-1,_,_,_,_,_,rfl,rfl,by rw[e1];exact I2,by omega,by omega⟩):P:=h
theorem gg11 {P Q:Prop}(q:Q)(h:GQ Q->P:=by
 intro gq;repeat' first|(apply agv (r:=x);rfl;rfl;omega;(rw[Int.toNat_natCast];exact h2))|(apply agq (r:=y);rfl;rfl;omega;(rw[show ((x.length:Int)+(([b]:ah).length:Int)).toNat=x.length+1 by omega];exact h3))|refine gd6 ?_|(apply ahR;rfl;rfl;omega)|refine gd5 ?_|refine gd15 ?_|refine gd16 ?_|(rw[hg])|(apply agv (r:=t);rfl;rfl;omega;(rw[show (((t++[c]).length:Int)-1).toNat=t.length by omega];simp))|(apply agq (r:=s);rfl;rfl;omega;rfl)|(apply acs;rfl;rfl)|(apply afd;rfl;rfl)|refine gd9 ?_|refine gc ?_|(intro _;omega)|intro _|(omega)|exact gq.1):P:=h ⟨q⟩
theorem gg12 {P Q:Prop}(q:Q)(h:GQ Q->P:=by
 intro gq;repeat' first|(apply aeT;rfl;rfl;first|exact q1|exact q2)|(apply ajT;rfl)|(apply ajU (v:=(u:Int));rfl;omega)|(apply aiV (L:=nI) (n:=fH u);rfl;exact hz24;rfl;rfl;omega)|(apply aiu (L:=L') (c:=45);rfl;rfl;omega)|(apply aiW (L:=L'.set (0+0*1) 45) (n:=1+fH u);rfl;(rw[List.length_set];exact hl);rfl;omega;omega)|(apply aiX (L:=L'.set (0+0*1) 45);rfl;(rw[List.length_set];omega))|(apply abt;rfl;rfl)|(apply adW;rfl;rfl)|(apply agM;rfl;rfl)|(apply acJ;rfl;rfl)|refine gd0 ?_|(apply aeT;rfl;rfl;first|exact q306)|refine gc ?_|(intro _;omega)|intro _|(omega)|exact gq.1):P:=h ⟨q⟩
theorem gg13 {P:Prop}(h:P:=by
 repeat' first|refine gd13 ?_|(apply ahU;exact congrArg (fun z=>some (AV.ptr 0 z)) eI;rfl;omega)|(exact tl _ _ _ _ _)|(apply aiE (i:=i);rfl;exact hl;omega;omega)|refine gd8 ?_|(apply abt;rfl;rfl)|(apply aiI (i:=i);rfl;exact hb;exact hne;omega;omega)|refine gd1 ?_|(apply aiG (i:=i);rfl;rfl;exact hl;omega;omega)|refine gd0 ?_|(apply adX;rfl;rfl;rfl;exact⟨rfl,Nat.le_refl _,by simp[overwrite,fO,iR,o3,o4,o5,o6]⟩;rfl)|(apply ais (a:=m/18446744073709551616);rfl;rfl;omega)|(apply ais;rfl;rfl;exact⟨by omega,by omega⟩)|refine gc ?_|(intro _;omega)|intro _
 all_goals first|omega|exact next _ _ _ _|exact⟨.inr rfl,rfl,_,rfl,rfl,rfl⟩|exact iU (.inr rfl) rfl rfl rfl rfl|exact next _ _ _ _ _ _ _|exact⟨.inr rfl,rfl,_,rfl,[],a,⟨ix,jK,(Int.ediv_eq_zero_of_lt a0 hlt).symm⟩,⟨oa,na,(Int.emod_eq_of_lt a0 hlt).symm⟩,kl.less⟩|exact cn rfl rfl (out _)|exact next _ _ _ _ _|exact next _ _):P:=h
theorem gg14 {P:Prop}(h:P:=by
 repeat' first|(exact tl _ _ _ _ _ _ _ _ _)|(apply ajV;rfl;rfl;exact hc)|refine gd6 ?_|refine gd5 ?_|refine gd15 ?_|refine gd16 ?_|(apply agH (L:=V) (m:=k) (v:=v0);rfl;omega;omega;exact hv0)|(apply agH (L:=U) (m:=j+k) (v:=t0);rfl;omega;omega;exact ht0)|(apply acs;rfl;rfl)|refine gd2 ?_|(apply afd;rfl;rfl)|refine gc ?_|(intro _;omega)|intro _
 all_goals first|omega|exact fQ (ih _ _ _ (by omega) I2 (by omega))|exact hQ _ _ _ _ ⟨q0.1,by omega⟩ I.ge fin):P:=h
theorem gg15 {P:Prop}(h:P:=by
 repeat' first|(refine bS.app (f:=iC) (m:=[(0:Int)]) (S:=[0]) (fun _=>rfl) (fun _=>rfl) (by decide) (ho.grow [_]) (by simp) rfl rfl (Sl.iJ (f:=iC) (esz:=1) (l:=[(0:Int)]) (e:=3) (fun _=>rfl) cU rfl) hroom (fun H w' o' ho' hk hlen=>?_))|(apply ajs (v:=d);rfl;rfl;omega;exact hmod)|(exact Hj C hN hx hy ol om nl nm ll lm hm _ _ _ _ _ _ _ _)|(exact Hj C hN hx1 hy1 ol1 om1 nl1 nm1 ll1 lm1 hm1 _ _ _ _ _ _ _ _)|(apply abt;rfl;rfl)|(apply aiY (v:=bJ neg q);rfl;rfl;exact hrange;omega;exact hdiv)|refine gd19 ?_|(apply adW;rfl;rfl)|refine gd3 ?_|refine gd1 ?_|(refine bS.app (f:=iC) (m:=[0-d]) (S:=[0]) (fun _=>rfl) (fun _=>rfl) (by decide) (ho.grow [_]) (by simp) rfl rfl (Sl.iJ (f:=iC) (esz:=1) (l:=[0-d]) (e:=3) (fun _=>rfl) cU rfl) hroom (fun H w' o' ho' hk hlen=>?_))|refine gd2 ?_|refine gc ?_|(apply aal;rfl;rfl;exact q101 _ _ (uA rfl rfl cU))|(intro _;omega)|intro _
 all_goals first|omega|exact cn rfl rfl (.same rfl rfl)|exact cn rfl rfl (out _)|exact next _ _ _ _ ho' (hk 0 _ (by simp) (dL hK)) (by omega)|exact fin _ e _ _ _ _ _ _ ho' (hk 0 _ (by simp) (dL hK))|exact hR _ _ _ _ _ _ _ _ _):P:=h
theorem gg16 {P Q:Prop}(q:Q)(h:GQ Q->P:=by
 intro gq;repeat' first|refine gd8 ?_|(apply agv (s:=s) (r:=X);rfl;rfl;omega;exact e1')|(apply agq (s:=s) (r:=Y);rfl;rfl;omega;exact e2')|refine gd1 ?_|refine gd19 ?_|(apply aiW (L:=nI) (n:=fH u);rfl;exact hz;rfl;rfl;omega)|(apply aiW (L:=L') (n:=fH u);rfl;exact hl;rfl;rfl;omega)|(apply aiX (L:=L');rfl;omega)|(apply abt;rfl;rfl)|(apply acJ;rfl;rfl)|refine gd0 ?_|(apply aeT;rfl;rfl;first|exact q280b|exact q276b|exact q280a)|(apply aeT;rfl;rfl;first|exact q306)|refine gc ?_|(intro _;omega)|intro _|(omega)|exact gq.1):P:=h ⟨q⟩
theorem gg17 {P:Prop}(h:P:=by
 repeat' first|(apply aeT;rfl;rfl;first|exact q266)|(exact tl _ _ _ _ _ _ _ _ _ _ _ _ _)|(apply ajt;rfl;rfl;exact⟨rfl,Nat.le_refl _,by simp[overwrite,fO,o3]⟩;rfl)|(apply aju;rfl;rfl;simp;exact⟨rfl,Nat.le_refl _,by simp[overwrite,fO,o4]⟩;rfl)|(apply ajW;rfl;simp;rfl)|(apply adX;rfl;rfl;rfl;exact⟨rfl,Nat.le_refl _,by simp[overwrite,fO,o2,o4]⟩;rfl)|(apply aeX;rfl;rfl;all_goals first|(intro h;exact absurd hs h)|intro _)|(apply adX;rfl;rfl;exact hK;exact⟨rfl,Nat.le_refl _,rfl⟩;rfl)|(apply adW;rfl;rfl)|refine gd0 ?_|(apply aeT;rfl;rfl;first|exact q _)|refine gc ?_|(intro _;omega)|intro _
 all_goals first|omega|exact⟨.inr rfl,rfl,_,rfl,rfl,rfl⟩|exact next _ _ _ _|exact⟨.inr rfl,rfl,_,uH rfl (fx hK1),v0,k0,out _⟩):P:=h
theorem gg18 {P Q:Prop}(q:Q)(h:GQ Q->P:=by
 intro gq;repeat' first|refine gd18 ?_|(apply aiE (i:=k+1);rfl;exact hl;omega;omega)|(apply aiI (i:=k+1);rfl;exact hb;exact hne;omega;omega)|refine gd1 ?_|(apply adX;rfl;rfl;rfl;exact⟨rfl,Nat.le_refl _,by simp[overwrite,fO,o3,o4]⟩;rfl)|(apply afd;rfl;rfl)|(apply aal;rfl;rfl;first|exact q243)|(apply aiG (i:=k+2);rfl;rfl;exact hl;omega;omega)|(apply ahU;exact congrArg (fun z=>some (AV.ptr b z)) ei;exact hb;omega)|(apply acs;rfl;rfl)|(apply acJ;rfl;rfl)|refine gd0 ?_|refine gc ?_|(intro _;omega)|intro _|(omega)|exact gq.1):P:=h ⟨q⟩
theorem gg19 {P:Prop}(h:P:=by
 repeat' first|(apply agH (L:=V) (m:=i) (v:=y);rfl;omega;omega;exact hy.symm)|(apply ajv (i:=i);rfl;exact hl;omega;omega)|(apply ajw (i:=i);rfl;rfl;exact hl;omega;omega)|(apply aiZ (v:=w);exact congrArg (fun z=>some (AV.ptr 0 z)) eI;rfl;omega;exact hw.symm)|(apply aiF;exact congrArg (fun z=>some (AV.ptr 0 z)) eI;rfl;rfl;omega)|(apply afd;rfl;rfl)|(apply ajX;rfl;rfl;omega;intro _ _)|(apply ajY;rfl;rfl;omega;omega;intro _ _)|(apply ajZ (r:=[dJ (q%10)]);rfl;rfl;rfl;(simp only[List.length_cons,List.length_nil];omega);exact ec')|(apply aiJ;rfl;rfl;omega;omega)|(apply aja;rfl;rfl;omega;omega)|(apply abt;rfl;rfl)|(apply acs;rfl;rfl)|refine gc ?_|(intro _;omega)|intro _
 all_goals first|omega|exact next _ _ _|exact next _ _ _ _ _ (by omega) (by omega) (by omega)|exact cN ⟨A%B,by omega,B,A%B,_,_,rfl,rfl,by omega,by omega,hn⟩|exact fin _ _):P:=h
theorem gg20 {P Q:Prop}(q:Q)(h:GQ Q->P:=by
 intro gq;repeat' first|(apply aiu (c:=dJ V);rfl;exact(congrArg (fun z:Int=>some (AV.int .u8 z)) (show (48+(V:Int))%256=((dJ V).toNat:Int) by rw[hd];omega));omega)|(apply aiK;rfl;rfl;omega)|(apply ajx;rfl)|(apply aiv (v:=x);exact congrArg (fun z=>some (AV.ptr 1 z)) eI;rfl;omega;exact f0)|(apply ait (n:=s);rfl;rfl;rfl;omega)|(apply ail;exact congrArg (fun z=>some (AV.ptr 1 z)) eI;rfl;rfl;omega)|(apply aiv (v:=x/2^s);exact congrArg (fun z=>some (AV.ptr 1 z)) eI;rfl;(rw[List.length_set];omega);exact f1)|(apply aiv (v:=z);exact congrArg (fun z=>some (AV.ptr 1 z)) eJ;rfl;(rw[List.length_set];omega);exact f2)|(apply aiU (n:=64-s);rfl;rfl;omega;omega)|(apply ajp (64-s);rfl;rfl;exact w1;exact w2;omega;exact w3)|(apply ail;exact congrArg (fun z=>some (AV.ptr 1 z)) eI;rfl;rfl;(rw[List.length_set];omega))|(apply abt;rfl;rfl)|(apply acs;rfl;rfl)|refine gc ?_|(intro _;omega)|intro _|(omega)|exact gq.1):P:=h ⟨q⟩
end Go.Ab
namespace Go.Ab
abbrev zm (a b:Nat):aT:=⟨.l a,.mv (.p b),none⟩
abbrev zw (a b:Nat):aT:=⟨.p a,.mv (.l b),none⟩
abbrev zn (a b:Nat):aT:=⟨.l a,.mv (.l b),none⟩
abbrev zi (a:Nat)(n:Int):aT:=⟨.p a,.mv (.c (.int .i64 n)),none⟩
abbrev z1 (a f x:Nat):aT:=⟨.l a,.call (.c (.fn (.func f) [] [])) [.l x],none⟩
abbrev z2 (a f x y:Nat):aT:=⟨.l a,.call (.c (.fn (.func f) [] [])) [.l x,.l y],none⟩
abbrev ze (a i x:Nat):aT:=⟨.l a,.extract i (.l x),none⟩
abbrev za (a k x y:Nat):aT:=⟨.l a,.du none k (.l x) (.l y),none⟩
abbrev zd (a n x:Nat):aT:=⟨.l a,.load n false (.l x),none⟩
abbrev zt (a n x:Nat):aT:=⟨.l a,.load n true (.p x),none⟩
abbrev zT (a n x:Nat):aT:=⟨.l a,.load n true (.l x),none⟩
abbrev zs (n a x:Nat):aT:=⟨.no,.store n (.p a) (.l x),none⟩
abbrev zS (n a x:Nat):aT:=⟨.no,.store n (.l a) (.l x),none⟩
abbrev zf (a n x:Nat):aT:=⟨.l a,.dH n (.p x),none⟩
abbrev zl (a x:Nat):aT:=⟨.l a,.len .sl (.l x),none⟩
abbrev zL (a x:Nat):aT:=⟨.l a,.len .str (.l x),none⟩
abbrev zb (a:Nat)(o:BinOp)(x y:Nat):aT:=⟨.l a,.bin o (.l x) (.l y),none⟩
abbrev zc (a:Nat)(o:BinOp)(x:Nat)(n:Int):aT:=⟨.l a,.bin o (.l x) (.c (.int .i64 n)),none⟩
abbrev zq (a:Nat)(o:BinOp)(x:Nat)(n:Int):aT:=⟨.l a,.bin o (.p x) (.c (.int .i64 n)),none⟩
abbrev zr (a:Nat)(o:BinOp)(x y:Nat):aT:=⟨.l a,.bin o (.p x) (.p y),none⟩
abbrev zp (a c x:Nat):aT:=⟨.l a,.pick (.l c) (.l x) (.c (.bool false)),none⟩
abbrev zP (a c x:Nat):aT:=⟨.l a,.pick (.l c) (.c (.bool true)) (.l x),none⟩
abbrev zx (a e n x:Nat):aT:=⟨.p a,.box e n (.p x),none⟩
abbrev zu (a x:Nat):aT:=⟨.l a,.un .not (.l x),none⟩
theorem nca:(∀l:List AV,[]++l=l) /\ ∀(a:AV) (l m:List AV),(a::l)++m=a::(l++m):=⟨List.nil_append,fun _ _ _=>List.cons_append⟩
abbrev kI (n:Int):aN:=.c (.int .i64 n)
abbrev kU (n:Int):aN:=.c (.int .u64 n)
abbrev kW (n:Int):aN:=.c (.int .u32 n)
abbrev AV.iV (n:Int):AV:=.int .i64 n
abbrev AV.uV (n:Int):AV:=.int .u64 n
abbrev zR (l:List aT)(c:an):an:=.seq (.region l) c
abbrev kF (f:Nat):aN:=.c (.fn (.func f) [] [])
abbrev zg (o:aT)(k:Nat)(b:Bool):aT:=⟨o.dst,o.op,some (.l k,b)⟩
abbrev zD0:List UInt8:=[0,1,2,2,3,3,3,3,4,4,4,4,4,4,4,4,5,5,5,5,5,5,5,5,5,5,5,5,5,5,5,5,6,6,6,6,6,6,6,6,6,6,6,6,6,6,6,6,6,6,6,6,6,6,6,6,6,6,6,6,6,6,6,6,7,7,7,7,7,7,7,7,7,7,7,7,7,7,7,7,7,7,7,7,7,7,7,7,7,7,7,7,7,7,7,7,7,7,7,7,7,7,7,7,7,7,7,7,7,7,7,7,7,7,7,7,7,7,7,7,7,7,7,7,7,7,7,7,8,8,8,8,8,8,8,8,8,8,8,8,8,8,8,8,8,8,8,8,8,8,8,8,8,8,8,8,8,8,8,8,8,8,8,8,8,8,8,8,8,8,8,8,8,8,8,8,8,8,8,8,8,8,8,8,8,8,8,8,8,8,8,8,8,8,8,8,8,8,8,8,8,8,8,8,8,8,8,8,8,8,8,8,8,8,8,8,8,8,8,8,8,8,8,8,8,8,8,8,8,8,8,8,8,8,8,8,8,8,8,8,8,8,8,8,8,8,8,8,8,8,8,8,8,8,8,8]
abbrev zD1:List UInt8:=[48,48,48,49,48,50,48,51,48,52,48,53,48,54,48,55,48,56,48,57,49,48,49,49,49,50,49,51,49,52,49,53,49,54,49,55,49,56,49,57,50,48,50,49,50,50,50,51,50,52,50,53,50,54,50,55,50,56,50,57,51,48,51,49,51,50,51,51,51,52,51,53,51,54,51,55,51,56,51,57,52,48,52,49,52,50,52,51,52,52,52,53,52,54,52,55,52,56,52,57,53,48,53,49,53,50,53,51,53,52,53,53,53,54,53,55,53,56,53,57,54,48,54,49,54,50,54,51,54,52,54,53,54,54,54,55,54,56,54,57,55,48,55,49,55,50,55,51,55,52,55,53,55,54,55,55,55,56,55,57,56,48,56,49,56,50,56,51,56,52,56,53,56,54,56,55,56,56,56,57,57,48,57,49,57,50,57,51,57,52,57,53,57,54,57,55,57,56,57,57]
abbrev zD2:List UInt8:=[48,49,50,51,52,53,54,55,56,57,97,98,99,100,101,102,103,104,105,106,107,108,109,110,111,112,113,114,115,116,117,118,119,120,121,122]
abbrev zD3:List UInt8:=[48,48,48,48,48,48,48,48,48,48,48,48,48,48,48,48,48,48,48,48,48,48,48,48,48,48,48,48,48,48,48,48,48,48,48,48,48,48,48,48,48,48,48,48,48,48,48,48,48,48,48,48,48,48,48,48,48,48,48,48,48,48,48,48]
abbrev zD4:List UInt8:=[45,45,45,45,45,45,45,45,45,45,45,45,45,45,45,45,45,45,45,45,45,45,45,45,45,45,45,45,45,45,45,45,45,45,45,45,45,45,45,45,45,45,45,45,45,45,45,45,45,45,45,45,45,45,45,45,45,45,45,45,45,45,45,45,45,45,45,45,45,45,45,45,45,45,45,45,45,45,45,45,45,45,45,45,45,45,45,45,45,45,45,45,45,45,45,45,45,45,45,45,45,45,45,45,45,45,45,45,45,45,45,45,45,45,45,45,45,45,45,45,45,45,45,45,45,45,45,45]
abbrev zD5:List UInt8:=[32,32,32,32,32,32,32,32,32,32,32,32,32,32,32,32,32,32,32,32,32,32,32,32,32,32,32,32,32,32,32,32,32,32,32,32,32,32,32,32,32,32,32,32,32,32,32,32,32,32,32,32,32,32,32,32,32,32,32,32,32,32,32,32,32,32,32,32,32,32,32,32,32,32,32,32,32,32,32,32,32,32,32,32,32,32,32,32,32,32,32,32,32,32,32,32,32,32,32,32,32,32,32,32,32,32,32,32,32,32,32,32,32,32,32,32,32,32,32,32,32,32,32,32,32,32,32,32]
abbrev zD6:List UInt8:=[9,9,9,9,9,9,9,9,9,9,9,9,9,9,9,9,9,9,9,9,9,9,9,9,9,9,9,9,9,9,9,9,9,9,9,9,9,9,9,9,9,9,9,9,9,9,9,9,9,9,9,9,9,9,9,9,9,9,9,9,9,9,9,9]
abbrev zD7:List UInt8:=[61,61,61,61,61,61,61,61,61,61,61,61,61,61,61,61,61,61,61,61,61,61,61,61,61,61,61,61,61,61,61,61,61,61,61,61,61,61,61,61,61,61,61,61,61,61,61,61,61,61,61,61,61,61,61,61,61,61,61,61,61,61,61,61,61,61,61,61,61,61,61,61,61,61,61,61,61,61,61,61,61,61,61,61,61,61,61,61,61,61,61,61,61,61,61,61,61,61,61,61,61,61,61,61,61,61,61,61,61,61,61,61,61,61,61,61,61,61,61,61,61,61,61,61,61,61,61,61]
abbrev zD8:List UInt8:=[65,116,111,105]
abbrev zD9:List UInt8:=[48,49,50,51,52,53,54,55,56,57]
end Go.Ab
namespace Go.Ab
def pE (rec:Value->Option AV):List Value->Option (List AV)
 | []=>some []
 | v::r=>match rec v,pE rec r with
   | some a,some l=>some (a::l)
   | _,_=>none
def nJ:Nat->Value->Option AV
 | 0,_=>none
 | n+1,v=>
  match v with
  | .bool b=>some (.bool b)
  | .int k m=>some (.int k m)
  | .string s=>some (.str s.data.toList)
  | .pointer none=>some .dj
  | .slice none 0 0=>some .aa
  | .map none=>some .eC
  | .nilFunc=>some .fE
  | .nilIface=>some .cS
  | .func (.func f) ⟨[]⟩ ⟨[]⟩=>some (.fn (.func f) [] [])
  | .agg ⟨cs⟩=>(pE (fun v=>nJ n v) cs).map .agg
  | .tuple ⟨cs⟩=>(pE (fun v=>nJ n v) cs).map .au
  | _=>none
def idx (t:Nat):List Nat->Nat->Option Nat
 | [],_=>none
 | u::r,i=>if u=t then some i else idx t r (i+1)
structure Cx where
 P:Program
 gl:Nat->Option AV
 aO:List Nat
 N:Nat
def gn (C:Cx):Operand->Option aN
 | .tmp t=>match idx t C.aO 0 with
   | some i=>some (.p i)
   | none=>some (.l t)
 | .const v=>(nJ 5 v).map .c
 | .func f=>some (.c (.fn (.func f) [] []))
 | .global g=>(C.gl g).map .c
def gY (C:Cx):List Operand->Option (List aN)
 | []=>some []
 | x::xs=>match gn C x,gY C xs with
   | some a,some l=>some (a::l)
   | _,_=>none
def mj (C:Cx):Option Operand->Option (Option aN)
 | none=>some none
 | some x=>(gn C x).map some
def AK:TypeDesc->Bool
 | .struct _ | .array _ _=>true
 | _=>false
def shapeOf (P:Program)(t:TypeId):Option (Nat×Bool):=
 match P.info? t,P.underlying t with
 | some i,some d=>some (i.size,AK d)
 | _,_=>none
def zeroOf (P:Program)(t:TypeId):Option AV:=
 match P.info? t with
 | some i=>match i.zero with
   | some v=>nJ 5 v
   | none=>none
 | none=>none
def rI (P:Program)(rec:TypeId->Option gK):List Field->Option (List (Nat×Nat×Bool×gK))
 | []=>some []
 | f::r=>match rI P rec r with
   | some l => if f.name == "_" then some l else
     match shapeOf P f.type,rec f.type with
     | some (n,ag),some e=>some ((f.offset,n,ag,e)::l)
     | _,_=>none
   | none=>none
def rJ (sz:Nat)(ag:Bool)(q:gK):Nat->Nat->List (Nat×Nat×Bool×gK)
 | 0,_=>[]
 | n+1,i=>(i*sz,sz,ag,q)::rJ sz ag q n (i+1)
def gZ (P:Program):Nat->Bool->TypeId->Option gK
 | 0,_,_=>none
 | d+1,g,t=>
  match P.underlying t with
  | some .bool=>some .bool
  | some (.int _)=>some .int
  | some .string=>some .str
  | some (.pointer _)=>some (.ref .ptr)
  | some (.slice _)=>some (.ref .slice)
  | some (.map _ _)=>some (.ref .map)
  | some (.func _ _ _)=>some (.ref .func)
  | some (.interface ms)=>some (.iface (g && !ms.isEmpty))
  | some (.struct fs)=>if P.stoodInHeld t then none else (rI P (fun t=>gZ P d true t) fs.toList).map .Al
  | some (.array n e)=>match shapeOf P e,gZ P d true e with
    | some (sz,ag),some q=>some (.Al (rJ sz ag q n 0))
    | _,_=>none
  | _=>none
def lf:Operand->Bool
 | .const _=>true
 | _=>false
def km (C:Cx)(place:Nat->Option (Nat×Nat)):List (Nat×Operand)->Option (List (Nat×Nat×aN))
 | []=>some []
 | (i,x)::r=>match place i,gn C x,km C place r with
   | some (o,n),some a,some l=>some ((o,n,a)::l)
   | _,_,_=>none
def pF (P:Program):List Field->Option (List (Nat×Nat))
 | []=>some []
 | f::r=>match P.info? f.type,pF P r with
   | some i,some l=>some ((f.offset,i.size)::l)
   | _,_=>none
def iW (P:Program)(t:TypeId):Option (TypeId×Nat×Nat):=
 match P.underlying t with
 | some (.slice e)=>match P.info? e with
   | some i=>some (e,i.size,i.bytes)
   | none=>none
 | _=>none
def keyOf (P:Program)(t:TypeId):Option iw:=
 match P.underlying t with
 | some (.int _)=>some .int
 | some .string=>some .str
 | _=>none
def rK:BinOp->Bool
 | .eql | .neq=>true
 | _=>false
def uN (P:Program)(t:TypeId):Bool:=
 match P.underlying t with
 | some (.int _)|some .string=>true
 | _=>false
def uO (P:Program)(e:TypeId)(n:Nat):Bool:=
 match (zeroOf P e).bind AV.cells with
 | some z=>z.length == n
 | none=>false
def AL (P:Program)(t:TypeId):Bool:=
 match P.underlying t with
 | some (.struct _)|some (.array _ _)=>P.eqGuardType P.depth t
 | _=>false
def Rg:Fn->Bool
 | .yield _=>true
 | _=>false
def jt (P:Program)(e:TypeId):Bool:=
 match P.info? e with
 | some i=>match i.desc with
   | .named n _ => n == "strings.Builder"
   | _=>false
 | none=>false
def AM (P:Program)(t:TypeId):Bool:=
 match P.underlying t with
 | some (.pointer e)=>jt P e
 | _=>false
def iX (C:Cx)(o:Oper):Option ba:=
 let P:=C.P
 let d:=gn C
 match o.op with
 | .move x | .assign x=>(d x).map .mv
 | .pick c a b=>match d c,d a,d b with
   | some c,some a,some b=>some (.pick c a b)
   | _,_,_=>none
 | .alloc e=>match zeroOf P e with
   | some z=>z.cells.map (.alloc e)
   | none=>none
 | .box e x=>match shapeOf P e,d x with
   | some (n,_),some x=>some (.box e n x)
   | _,_=>none
 | .build t ps=>match zeroOf P t with
   | some z=>match z.cells,P.underlying t with
     | some zc,some (.struct fs)=>match pF P fs.toList with
       | some pl=>(km C (pl[·]?) ps.toList).map (.build zc)
       | none=>none
     | some zc,some (.array _ e)=>match P.info? e with
       | some i=>(km C (fun j=>some (j*i.size,i.size)) ps.toList).map (.build zc)
       | none=>none
     | _,_=>none
   | none=>none
 | .buildSlice t len ps=>match iW P t with
   | some (e,n,_)=>match (zeroOf P e).bind AV.cells,km C (fun j=>some (j*n,n)) ps.toList with
     | some z,some l=>if len*n<=2^24/\z.length=n/\0<n then some (.dQ e len n z l) else none
     | _,_=>none
   | none=>none
 | .load t a=>match shapeOf P t,d a with
   | some (n,ag),some a=>some (.load n ag a)
   | _,_=>none
 | .store t a x=>match shapeOf P t,d a,d x with
   | some (n,_),some a,some x=>some (.store n a x)
   | _,_,_=>none
 | .nilCheck x=>(d x).map .jJ
 | .binOp op t x y _=>match d x,d y with
   | some a,some b=>
    if rK op && !uN P t then
     if AM P t && !(lf x || lf y) then some (.nw (op == .neq) a b) else
     if AL P t then none else
     (gZ P 20 (!(lf x || lf y)) t).map fun e=>.eq (op == .neq) e a b
    else some (.bin op a b)
   | _,_=>none
 | .unOp op _ x=>(d x).map (.un op)
 | .convert src dst x=>match P.underlying src,P.underlying dst,d x with
   | some (.int _),some (.int k),some a=>some (.dE k a)
   | some (.int _),some .string,some a=>some (.Am a)
   | some .string,some .string,some a=>some (.An a)
   | some .string,some (.slice e),some a=>match P.underlying e with
     | some (.int .u8)=>if jt P e then none else some (.pA e a)
     | _=>none
   | some (.slice e),some .string,some a=>match P.underlying e with
     | some (.int .u8)=>some (.kQ a)
     | _=>none
   | some (.pointer t),some .unsafePointer,some a=>match P.info? t with
     | some i=>if i.size=0 then none else some (.ki none a)
     | none=>none
   | some .unsafePointer,some (.pointer u),some a=>match P.info? u with
     | some _=>if jt P u && liesAt P P.depth u (P.cellsOf u/P.cellsOf u) 0 u 1 then some (.ki (some (u,P.cellsOf u)) a) else none
     | none=>none
   | _,_,_=>none
 | .makeInterface t x=>match P.underlying t with
   | some (.interface _)=>none
   | some _=>(d x).map (.rq t)
   | none=>none
 | .typeAssert x _ t ok=>match P.underlying t with
   | some (.interface _)=>none
   | some _=>match d x,zeroOf P t with
     | some x,some z=>some (.Ap t z ok x)
     | _,_=>none
   | none=>none
 | .makeFunc f fi ca=>if Rg f then none else match gY C fi.toList,gY C ca.toList with
   | some a,some b=>some (.ru f a b)
   | _,_=>none
 | .makeMap _ none=>some .ny
 | .makeSlice t l c=>match iW P t,d l,d c with
   | some (e,n,by'),some l,some c=>match (zeroOf P e).bind AV.cells with
     | some z=>if z.length=n/\0<n then some (.gA e n by' z l c) else none
     | none=>none
   | _,_,_=>none
 | .slice t x lo hi mx=>match P.underlying t,d x,mj C lo,mj C hi,mj C mx with
   | some .string,some x,some l,some h,some none=>some (.slice .str 1 x l h none)
   | some (.slice e),some x,some l,some h,some m=>match P.info? e with
     | some i=>some (.slice .sl i.size x l h m)
     | none=>none
   | some (.array n e),some x,some l,some h,some none=>match P.info? e with
     | some i=>some (.iG n i.size x l h)
     | none=>none
   | _,_,_,_,_=>none
 | .fieldAddr t x f=>match P.underlying t,d x with
   | some (.struct fs),some x=>match fs[f]? with
     | some f=>match P.info? f.type with
       | some i=>if i.size=0 then none else some (.dH f.offset x)
       | none=>none
     | none=>none
   | _,_=>none
 | .field t x f=>match P.underlying t,d x with
   | some (.struct fs),some x=>match fs[f]? with
     | some f=>match shapeOf P f.type with
       | some (n,ag)=>some (.field f.offset n ag x)
       | none=>none
     | none=>none
   | _,_=>none
 | .indexAddr t x i=>match P.underlying t,d x,d i with
   | some (.array n e),some x,some i=>match P.info? e with
     | some inf=>some (.du (some n) inf.size x i)
     | none=>none
   | some (.slice e),some x,some i=>match P.info? e with
     | some inf=>some (.du none inf.size x i)
     | none=>none
   | _,_,_=>none
 | .index t x i=>match P.underlying t,d x,d i with
   | some .string,some x,some i=>some (.index x i)
   | some (.array n e),some x,some i=>match shapeOf P e with
     | some (sz,ag)=>some (.Ao n sz ag x i)
     | none=>none
   | _,_,_=>none
 | .lookup t x i ok=>match P.underlying t,d x,d i with
   | some (.map k e),some x,some i=>match keyOf P k,zeroOf P e with
     | some k,some z=>some (.lookup k z x i ok)
     | _,_=>none
   | _,_,_=>none
 | .mapUpdate t m i x | .insert t m i x=>match P.underlying t,d m,d i,d x with
   | some (.map k _),some m,some i,some x=>(keyOf P k).map fun k=>.ry k m i x
   | _,_,_,_=>none
 | .range t x=>match P.underlying t,d x with
   | some .string,some x=>some (.range x)
   | _,_=>none
 | .next x true=>(d x).map .next
 | .extract x i=>(d x).map (.extract i)
 | .call c=>match c.callee with
   | .value f=>match d f,gY C c.args.toList with
     | some f,some as=>some (.call f as)
     | _,_=>none
   | .invoke r name=>match d r,gY C c.args.toList with
     | some r,some as=>some (.invoke r name as)
     | _,_=>none
   | .builtin b=>match b,c.argTypes.toList,gY C c.args.toList with
     | .len,[t],some [x]=>match P.underlying t with
       | some (.array n _)=>some (.len (.arr n) x)
       | some (.map _ _)=>some (.rz x)
       | some .string=>some (.len .str x)
       | some (.slice _)=>some (.len .sl x)
       | _=>none
     | .cap,[t],some [x]=>match P.underlying t with
       | some (.slice _)=>some (.cap x)
       | _=>none
     | .append,[t,u],some [x,y]=>match iW P t,P.underlying u with
       | some (e,n,by'),some .string=>if n=1/\uO P e n=true/\jt P e=false then some (.append e n by' x y) else none
       | some (e,n,by'),some (.slice _)=>if 0<n/\uO P e n=true/\jt P e=false then some (.append e n by' x y) else none
       | _,_=>none
     | .copy,[t,_],some [x,y]=>match iW P t with
       | some (_,n,_)=>if 0<n then some (.copy n x y) else none
       | none=>none
     | .clear,[t],some [x]=>match iW P t with
       | some (e,n,_)=>match (zeroOf P e).bind AV.cells with
         | some z=>if z.length=n/\0<n then some (.rp n z x) else none
         | none=>none
       | none=>none
     | .unsafeSliceData,[t],some [x]=>match P.underlying t with
       | some (.slice _)=>some (.rn x)
       | _=>none
     | .unsafeString,[t,_],some [x,n]=>match P.underlying t with
       | some (.pointer e)=>if P.cellsOf e=1 then some (.jI e x n) else none
       | _=>none
     | .max,_,some xs=>some (.mm true xs)
     | .min,_,some xs=>some (.mm false xs)
     | _,_,_=>none
 | _=>none
def kn (C:Cx):Option Tmp->Option eZ
 | none=>some .no
 | some t=>if t<C.N then
     match idx t C.aO 0 with
     | some i=>some (.p i)
     | none=>some (.l t)
   else none
def uP (C:Cx)(ops:List Oper):Option (Nat×Bool)->Option (Option (aN×Bool))
 | none=>some none
 | some (j,w)=>match ops[j]? with
   | some o=>match o.dst with
     | some t=>(gn C (.tmp t)).map fun x=>some (x,w)
     | none=>none
   | none=>none
def uQ (C:Cx)(ops:List Oper)(o:Oper):Option aT:=
 match kn C o.dst,iX C o,uP C ops o.guard with
 | some d,some op,some g=>some ⟨d,op,g⟩
 | _,_,_=>none
def jL (C:Cx)(ops:List Oper):List Oper->Option (List aT)
 | []=>some []
 | o::r=>match uQ C ops o,jL C ops r with
   | some a,some l=>some (a::l)
   | _,_=>none
def Rh (ops:List Oper):List Nat:=
 ops.foldl (fun acc o=>acc++[o.after.toList.foldl (fun s e=>if Region.binds .any e then s ||| 2^e.on ||| acc.getD e.on 0 else s) 0]) []
def ju (bits i:Nat):List Nat:=(List.range i).filter fun j=>!bits.testBit j
def pG (ops:List Oper)(bits:List Nat):Bool:=
 ops.zipIdx.all fun (o,i)=>
  o.after.toList.all (fun e=>!Region.binds .any e || decide (e.on<i)) &&
  (List.range i).all fun j=>!(bits.getD i 0).testBit j || o.after.toList.any fun e=>Region.binds .any e && (e.on == j || (decide (j<e.on) && (bits.getD e.on 0).testBit j))
def pH (l:List aT)(bits:List Nat):Bool:=
 l.zipIdx.all fun (o,i)=>(ju (bits.getD i 0) i).all fun j=>match l[j]? with|some oj=>pB oj o|none=>false
def uR (C:Cx)(ops:List Oper)(draw:Bool):Option an:=
 match jL C ops ops with
 | none=>none
 | some l=>
  if draw then
   let bits:=Rh ops
   if pG ops bits && pH l bits then some (.draw (l.zipIdx.map fun (o,i)=>(o,ju (bits.getD i 0) i))) else none
  else some (.region l)
def ml (C:Cx):List Tmp->Option (List eZ)
 | []=>some []
 | t::r=>match kn C (some t),ml C r with
   | some d,some l=>some (d::l)
   | _,_=>none
def fI (C:Cx)(rd:Bool):Code->Option an
 | .skip=>some .skip
 | .region _ ops draw=>some ((uR C ops.toList draw).getD .bad)
 | .seq a b=>match fI C rd a,fI C rd b with
   | some a,some b=>some (.seq a b)
   | _,_=>none
 | .cond c a b=>match gn C c,fI C rd a,fI C rd b with
   | some c,some a,some b=>some (.cond c a b)
   | _,_,_=>none
 | .block id c=>(fI C rd c).map (.block id)
 | .loop c=>(fI C rd c).map .loop
 | .exit id=>some (.exit id)
 | .ret=>some .ret
 | .scope c=>(fI C rd c).map fun c=>.seq c .skip
 | .label _=>some .skip
 | .rangeFunc f ps a b=>match gn C f,ml C ps.toList,fI C true a,fI C true b with
   | some f,some ps,some a,some b=>some (.rangeFunc rd f ps a b)
   | _,_,_,_=>none
 | _=>some .bad
def lh (C:Cx):List ResultVar->Option (List fa)
 | []=>some []
 | .tmp t::r=>match gn C (.tmp t),lh C r with
   | some x,some l=>some (.var x::l)
   | _,_=>none
 | .cell t ty::r=>match gn C (.tmp t),shapeOf C.P ty,lh C r with
   | some x,some (n,ag),some l=>some (.cell n ag x::l)
   | _,_,_=>none
def uS (P:Program)(gl:Nat->Option AV)(aO:List Nat)(f:Func):Option cW:=
 let C:Cx:=⟨P,gl,aO,f.ntmps⟩
 match f.body with
 | none=>none
 | some c=>
  match fI C false c,lh C f.results.toList with
  | some b,some r=>if aO.all (· < f.ntmps) && decide aO.Nodup then some ⟨f.ntmps,aO,r,b⟩ else none
  | _,_=>none
def fj (P:Program)(t:TypeId)(name:String):Option FuncId:=
 match P.info? t,P.underlying t with
 | some i,some u=>match i.methods.toList.find? (·.name == name) with
   | some m=>match m.func,m.path.toList with
     | some (f,ptr),[]=>match u,ptr with
       | .pointer _,true=>some f
       | .pointer _,false=>none
       | _,false=>some f
       | _,true=>none
     | _,_=>none
   | none=>none
 | _,_=>none
end Go.Ab
namespace Go.Ab
def Hp (P:Program)(gl:Nat->Option AV)(aO:List (List Nat))(f:FuncId):Option cW:=
 match P.funcs[f]?,aO[f]? with
 | some fn,some p=>uS P gl p fn
 | _,_=>none
end Go.Ab
namespace Go.Ab
variable {w w':World} {x:AV} {l:List AV} {y v:Value} {m:List Value} {h h':ab} {a:Addr} {n:Nat}
inductive BS where
 | fresh|dead|nil|live (c d:Nat)
structure ax where
 at':Nat->BS
 X:Nat->Prop
instance:CoeFun ax (fun _=>Nat->BS):=⟨ax.at'⟩
def cL (ρ:ax)(c:Nat):Prop:=(∀b d,ρ b≠.live c d)/\¬ρ.X c
inductive V (ρ:ax) (w:World):AV->Value->Prop
 | cM (v:Value):V ρ w .cM v
 | bool (b:Bool):V ρ w (.bool b) (.bool b)
 | int (k:IntKind) (n:Int):V ρ w (.int k n) (.int k n)
 | str (s:List UInt8):V ρ w (.str s) (.string ⟨s.toArray⟩)
 | dj:V ρ w .dj (.pointer none)
 | ptr {b c d:Nat} (o:Nat) (h:ρ b = .live c d):V ρ w (.ptr b o) (.pointer (some ⟨c,o+d,none⟩))
 | dX {b:Nat} (o c o':Nat) (h:ρ b = .dead):V ρ w (.ptr b o) (.pointer (some ⟨c,o',none⟩))
 | vp {l:List AV} (c o:Nat) (g:Nat->Value) (hf:l≠[]->cL ρ c) (hc:∀i:Nat,i<l.length->w.cell? ⟨c,o+i,none⟩=some (g i))
     (hg:∀(i:Nat) x,l[i]? = some x->V ρ w x (g i)):V ρ w (.vp l) (.pointer (some ⟨c,o,none⟩))
 | aa:V ρ w .aa (.slice none 0 0)
 | sl {b c d o len esz capC:Nat} {cap:Option Nat} (h:ρ b = .live c d) (hl:len<=capC) (hcap:∀n,cap=some n->capC=n)
     (hb:∃cs e fr,w.heap[c]? = some (.cells cs e fr)/\o+d+capC*esz<=cs.size):V ρ w (.sl b o len esz cap) (.slice (some ⟨c,o+d,none⟩) len capC)
 | fy {b esz:Nat} (h:ρ b = .nil):V ρ w (.sl b 0 0 esz none) (.slice none 0 0)
 | eK {b o len esz capC:Nat} {cap:Option Nat} (c o':Nat) (h:ρ b = .dead) (hl:len<=capC) (hcap:∀n,cap=some n->capC=n):V ρ w (.sl b o len esz cap) (.slice (some ⟨c,o',none⟩) len capC)
 | fu {b esz:Nat} (h:ρ b = .dead):V ρ w (.sl b 0 0 esz none) (.slice none 0 0)
 | fz {b esz:Nat} (a:Addr) (h:ρ b = .dead):V ρ w (.sl b 0 0 esz (some 0)) (.slice (some a) 0 0)
 | vs {l:List AV} {len capC:Nat} {cap:Option Nat} (c o:Nat) (g:Nat->Value) (hf:l≠[]->cL ρ c) (hl:len<=capC) (hcap:∀n,cap=some n->capC=n)
     (hc:∀i:Nat,i<l.length->w.cell? ⟨c,o+i,none⟩=some (g i)) (hg:∀(i:Nat) x,l[i]? = some x->V ρ w x (g i)):V ρ w (.vs l len cap) (.slice (some ⟨c,o,none⟩) len capC)
 | dY {cap:Option Nat} (hcap:∀n,cap=some n->n=0):V ρ w (.vs [] 0 cap) (.slice none 0 0)
 | fv {cap:Option Nat} (a:Addr) (hcap:∀n,cap=some n->n=0):V ρ w (.vs [] 0 cap) (.slice (some a) 0 0)
 | eC:V ρ w .eC (.map none)
 | map {b c:Nat} (h:ρ b = .live c 0):V ρ w (.map b) (.map (some c))
 | hJ {b:Nat} (c:Nat) (h:ρ b = .dead):V ρ w (.map b) (.map (some c))
 | yield {b c d:Nat} (h:ρ b = .live c d):V ρ w (.fn (.yield b) [] []) (.func (.yield c) #[] #[])
 | fn {f:Fn} {fi ca:List AV} {fi' ca':List Value} (hf:∀l,f≠.yield l) (h1:fi.length=fi'.length) (h2:ca.length=ca'.length)
     (g1:∀(i:Nat) x y,fi[i]? = some x->fi'[i]? = some y->V ρ w x y) (g2:∀(i:Nat) x y,ca[i]? = some x->ca'[i]? = some y->V ρ w x y):V ρ w (.fn f fi ca) (.func f fi'.toArray ca'.toArray)
 | gN {b:Nat} (c:Nat) (h:ρ b = .dead):V ρ w (.fn (.yield b) [] []) (.func (.yield c) #[] #[])
 | fE:V ρ w .fE .nilFunc
 | iface {t:TypeId} {x:AV} {y:Value} (h:V ρ w x y):V ρ w (.iface t x) (.iface t y)
 | cS:V ρ w .cS .nilIface
 | agg {l:List AV} {m:List Value} (h:l.length=m.length) (g:∀(i:Nat) x y,l[i]? = some x->m[i]? = some y->V ρ w x y):V ρ w (.agg l) (.agg m.toArray)
 | au {l:List AV} {m:List Value} (h:l.length=m.length) (g:∀(i:Nat) x y,l[i]? = some x->m[i]? = some y->V ρ w x y):V ρ w (.au l) (.tuple m.toArray)
def VL (ρ:ax)(w:World)(l:List AV)(m:List Value):Prop:=
 l.length=m.length/\∀(i:Nat) x y,l[i]? = some x->m[i]? = some y->V ρ w x y
theorem V.uT {ρ:ax}(s:ByteArray):V ρ w (.str s.data.toList) (.string s):=by
 have:=V.str (ρ:=ρ) (w:=w) s.data.toList;simpa using this
theorem VL.nil {ρ:ax}:VL ρ w [] []:=⟨rfl,by simp⟩
theorem VL.cons {ρ:ax}(h:V ρ w x y)(h':VL ρ w l m):VL ρ w (x::l) (y::m):=by
 refine⟨by simp[h'.1],fun i a b ha hb=>?_⟩;cases i with
 | zero=>simp at ha hb;subst ha;subst hb;exact h
 | succ i=>simp at ha hb;exact h'.2 i a b ha hb
theorem VL.head {ρ:ax}(h:VL ρ w (x::l) (y::m)):V ρ w x y:=h.2 0 x y rfl rfl
theorem VL.tail {ρ:ax}(h:VL ρ w (x::l) (y::m)):VL ρ w l m:=
 ⟨by simpa using h.1,fun i a b ha hb=>h.2 (i+1) a b (by simpa using ha) (by simpa using hb)⟩
theorem VL.cons_inv {ρ:ax}(h:VL ρ w (x::l) m):∃y m',m=y::m'/\V ρ w x y/\VL ρ w l m':=by
 cases m with
 | nil=>exact absurd h.1 (by simp)
 | cons y m'=>exact⟨y,m',rfl,h.head,h.tail⟩
theorem VL.jM {ρ:ax}(h:VL ρ w [] m):m=[]:=by
 have:=h.1;cases m <;> simp_all
theorem VL.append {ρ:ax}:∀{l l':List AV} {m m':List Value},VL ρ w l m->VL ρ w l' m'->VL ρ w (l++l') (m++m')
 | [],_,_,_,h,h'=>by rw[h.jM];exact h'
 | _::_,_,_,_,h,h'=>by
  obtain⟨y,m1,rfl,hv,hl⟩:=h.cons_inv;exact .cons hv (hl.append h')
theorem VL.drop {ρ:ax}(h:VL ρ w l m)(n:Nat):VL ρ w (l.drop n) (m.drop n):=
 ⟨by simp[h.1],fun i a b ha hb=>h.2 (n+i) a b (by simpa using ha) (by simpa using hb)⟩
theorem VL.take {ρ:ax}(h:VL ρ w l m)(n:Nat):VL ρ w (l.take n) (m.take n):=
 ⟨by simp[h.1],fun i a b ha hb=>by
  rw[List.getElem?_take]at ha hb;split at ha
  . rename_i hlt;rw[if_pos hlt]at hb;exact h.2 i a b ha hb
  . cases ha⟩
structure ER (C:Cx)(ρ:ax)(w:World)(pe:List AV)(lo:List (Nat×AV))(tmps:Array Value):Prop where
 size:tmps.size=C.N
 nodup:C.aO.Nodup
 lt:∀t∈C.aO,t<C.N
 iY:pe.length=C.aO.length
 pe:∀(i:Nat) v t,pe[i]? = some v->C.aO[i]? = some t->V ρ w v (tmps.getD t undef)
 lo:∀t v,lo.lookup t=some v->t<C.N/\t∉C.aO/\V ρ w v (tmps.getD t undef)
def nK:Option Ex->Option Code->Prop
 | none,none=>True
 | some .ret,some .ret=>True
 | some (.exit i),some (.exit j)=>i=j
 | _,_=>False
def Fits (P:Program)(e:TypeId)(d n s:Nat):Prop:=d+n<=s/\(jt P e=true->d=0/\n=s)
def BR (P:Program)(gl:Nat->Option AV)(ρ:ax)(w:World)(b:Nat):bw->Prop
 | .cells l e=>(∃c d cs fr,ρ b = .live c d/\w.heap[c]? = some (.cells cs e fr)/\Fits P e d l.length cs.size/\(∀i,i<cs.size->w.frozen? ⟨c,i,none⟩=false) /\
     ∀(i:Nat) x y,l[i]? = some x->cs[i+d]? = some y->V ρ w x y)\/(ρ b = .nil/\l=[])
 | .map es=>∃c ms clk,ρ b = .live c 0/\w.heap[c]? = some (.map ms clk)/\es.length=ms.size /\
     ∀(i:Nat) kx vx m,es[i]? = some (kx,vx)->ms[i]? = some m->V ρ w kx m.key/\V ρ w vx m.val
 | .iter s pos=>∃c,ρ b = .live c 0/\w.heap[c]? = some (.stringIter ⟨s.toArray⟩ pos)
 | .gg=>∃c,ρ b = .live c 0/\w.heap[c]? = some (.deferred (some []))
 | .hole=>ρ b = .fresh
 | .loop st pend pe ps a bd=>∃c r aO N,ρ b = .live c 0/\w.heap[c]? = some (.loop r)/\r.state=st/\nK pend r.pending /\
     ER ⟨P,gl,aO,N⟩ ρ w pe [] r.tmps/\ml ⟨P,gl,aO,N⟩ r.params.toList=some ps/\fI ⟨P,gl,aO,N⟩ true r.assign=some a/\fI ⟨P,gl,aO,N⟩ true r.body=some bd
structure Mem (P:Program)(gl:Nat->Option AV)(ρ:ax)(h:ab)(w:World):Prop where
 cQ:∀b o,h[b]? = some (some o)->BR P gl ρ w b o
 fresh:∀b,h.length<=b->ρ b = .fresh
 inj:∀b b' c d d',ρ b = .live c d->ρ b' = .live c d'->b=b'
 bound:∀b c d,ρ b = .live c d->c<w.heap.size
 xb:∀c,ρ.X c->c<w.heap.size
 xo:∀b c d,ρ b = .live c d->¬ρ.X c
 gl:∀g v,gl g=some v->V ρ w v (.pointer (some ⟨g,0,none⟩))
structure Ext (h h':ab)(ρ ρ':ax)(w w':World):Prop where
 os:w'.os=w.os
 tape:w'.tape=w.tape
 output:w'.output=w.output
 size:w.heap.size<=w'.heap.size
 len:h.length<=h'.length
 X:ρ'.X=ρ.X
 cM:∀b:Nat,h[b]? = some none->h'[b]? = some none
 same:∀b:Nat,h[b]? = some none->ρ' b=ρ b
 live:∀b c d,ρ b = .live c d->ρ' b = .live c d\/ρ' b = .dead
 dead:∀b,ρ b = .dead->ρ' b = .dead
 nil:∀b,ρ b = .nil->ρ' b = .nil\/ρ' b = .dead
 bR:∀c,c<w.heap.size->(∀b d,ρ b = .live c d->h[b]? = some none)->w'.heap[c]? = w.heap[c]?
 back:∀b c d,ρ' b = .live c d->c<w.heap.size->ρ b = .live c d\/∃b0 d0,ρ b0 = .live c d0/\h[b0]? ≠ some none
 shape:∀(c:Nat) cs e fr,w.heap[c]? = some (.cells cs e fr)->∃cs' fr',w'.heap[c]? = some (.cells cs' e fr')/\cs'.size=cs.size
theorem Ext.refl (h:ab)(ρ:ax)(w:World):Ext h h ρ ρ w w:=
 ⟨rfl,rfl,rfl,Nat.le_refl _,Nat.le_refl _,rfl,fun _ h=>h,fun _ _=>rfl,fun _ _ _ h=>.inl h,fun _ h=>h,fun _ h=>.inl h,fun _ _ _=>rfl,fun _ _ _ h _=>.inl h,
  fun _ cs _ fr h=>⟨cs,fr,h,rfl⟩⟩
theorem Ext.trans {h1 h2:ab}{ρ ρ1 ρ2:ax}{w1 w2:World}(x:Ext h h1 ρ ρ1 w w1)(y:Ext h1 h2 ρ1 ρ2 w1 w2):Ext h h2 ρ ρ2 w w2 where
 os:=y.os.trans x.os
 tape:=y.tape.trans x.tape
 output:=y.output.trans x.output
 size:=Nat.le_trans x.size y.size
 len:=Nat.le_trans x.len y.len
 X:=y.X.trans x.X
 cM b hb:=y.cM b (x.cM b hb)
 same b hb:=(y.same b (x.cM b hb)).trans (x.same b hb)
 live b c d hb:=by
  rcases x.live b c d hb with h|h
  . exact y.live b c d h
  . exact .inr (y.dead b h)
 dead b hb:=y.dead b (x.dead b hb)
 nil b hb:=by
  rcases x.nil b hb with h|h
  . exact y.nil b h
  . exact .inr (y.dead b h)
 bR c hc hb:=by
  rw[y.bR c (Nat.lt_of_lt_of_le hc x.size) ?_,x.bR c hc hb];intro b d h1;rcases x.back b c d h1 hc with h|⟨b0,d0,h,hn⟩
  . exact x.cM b (hb b d h)
  . exact absurd (hb b0 d0 h) hn
 back b c d h2 hc:=by
  rcases y.back b c d h2 (Nat.lt_of_lt_of_le hc x.size) with h1|⟨b1,d1,h1,hn1⟩
  . exact x.back b c d h1 hc
  . rcases x.back b1 c d1 h1 hc with h0|h0
    . exact .inr ⟨b1,d1,h0,fun hu=>hn1 (x.cM b1 hu)⟩
    . exact .inr h0
 shape c cs e fr h0:=by
  obtain⟨cs1,fr1,h1,e1⟩:=x.shape c cs e fr h0;obtain⟨cs2,fr2,h2,e2⟩:=y.shape c cs1 e fr1 h1;exact⟨cs2,fr2,h2,e2.trans e1⟩
theorem Ri (h:w.cell? a=some v):∃cs e fr,w.heap[a.block]? = some (.cells cs e fr):=by
 unfold World.cell? at h;split at h
 . rename_i cs e fr hc;exact⟨cs,e,fr,hc⟩
 . cases h
theorem AN (h:w.cell? a=some v):a.block<w.heap.size:=by
 obtain⟨cs,e,fr,hc⟩:=Ri h;exact(Array.getElem?_eq_some_iff.1 hc).1
theorem Rj (h:w'.heap[a.block]? = w.heap[a.block]?):w'.cell? a=w.cell? a:=by
 unfold World.cell?;rw[h]
theorem Ext.free {ρ ρ':ax}(x:Ext h h' ρ ρ' w w'){c:Nat}(hc:c<w.heap.size)(hf:cL ρ c):cL ρ' c:=by
 refine⟨fun b d hb=>?_,by rw[x.X];exact hf.2⟩;rcases x.back b c d hb hc with h|⟨b0,d0,h,_⟩
 . exact hf.1 _ _ h
 . exact hf.1 _ _ h
theorem Ext.cell {ρ ρ':ax}(x:Ext h h' ρ ρ' w w'){c o:Nat}{v:Value}(hf:cL ρ c)(hc:w.cell? ⟨c,o,none⟩=some v):w'.cell? ⟨c,o,none⟩=some v:=by
 have hlt:=AN hc;rw[Rj (w:=w)]
 . exact hc
 . exact x.bR c hlt (fun b d hb=>absurd hb (hf.1 b d))
theorem V.mono {ρ ρ':ax}(x:Ext h h' ρ ρ' w w'){a:AV}{v:Value}(hv:V ρ w a v):V ρ' w' a v:=by
 induction hv with
 | cM v=>exact .cM v
 | bool b=>exact .bool b
 | int k n=>exact .int k n
 | str s=>exact .str s
 | dj=>exact .dj
 | ptr o hb=>
               rcases x.live _ _ _ hb with h|h
               . exact .ptr o h
               . exact .dX o _ _ h
 | dX o c o' hb=>exact .dX o c o' (x.dead _ hb)
 | @vp l c o g hf hc _ ih=>
  by_cases hl:l=[]
  . subst hl;exact .vp c o g (fun h=>absurd rfl h) (by simp) (by simp)
  . have h0:=hc 0 (by cases l <;> simp_all);exact .vp c o g (fun _=>x.free (AN h0) (hf hl)) (fun i hi=>x.cell (hf hl) (hc i hi)) ih
 | aa=>exact .aa
 | sl hb hl hcap hs=>
  obtain⟨cs,e,fr,h1,h2⟩:=hs;obtain⟨cs',fr',h3,h4⟩:=x.shape _ _ _ _ h1;rcases x.live _ _ _ hb with h|h
  . exact .sl h hl hcap ⟨cs',e,fr',h3,by omega⟩
  . exact .eK _ _ h hl hcap
 | fy hb=>
             rcases x.nil _ hb with h|h
             . exact .fy h
             . exact .fu h
 | eK c o' hb hl hcap=>exact .eK c o' (x.dead _ hb) hl hcap
 | fu hb=>exact .fu (x.dead _ hb)
 | fz a hb=>exact .fz a (x.dead _ hb)
 | @vs l len capC cap c o g hf hl hcap hc _ ih=>
  by_cases hn:l=[]
  . subst hn;exact .vs c o g (fun h=>absurd rfl h) hl hcap (by simp) (by simp)
  . have h0:=hc 0 (by cases l <;> simp_all);exact .vs c o g (fun _=>x.free (AN h0) (hf hn)) hl hcap (fun i hi=>x.cell (hf hn) (hc i hi)) ih
 | dY hcap=>exact .dY hcap
 | fv a hcap=>exact .fv a hcap
 | eC=>exact .eC
 | map hb=>
             rcases x.live _ _ _ hb with h|h
             . exact .map h
             . exact .hJ _ h
 | hJ v hb=>exact .hJ v (x.dead _ hb)
 | yield hb=>
               rcases x.live _ _ _ hb with h|h
               . exact .yield h
               . exact .gN _ h
 | fn hf h1 h2 _ _ ih1 ih2=>exact .fn hf h1 h2 ih1 ih2
 | gN v hb=>exact .gN v (x.dead _ hb)
 | fE=>exact .fE
 | iface _ ih=>exact .iface ih
 | cS=>exact .cS
 | agg h _ ih=>exact .agg h ih
 | au h _ ih=>exact .au h ih
theorem VL.mono {ρ ρ':ax}(x:Ext h h' ρ ρ' w w'){l:List AV}{m:List Value}(hv:VL ρ w l m):VL ρ' w' l m:=
 ⟨hv.1,fun i a b ha hb=>(hv.2 i a b ha hb).mono x⟩
theorem ER.mono {C:Cx}{ρ ρ':ax}(x:Ext h h' ρ ρ' w w'){pe:List AV}{lo:List (Nat×AV)}{t:Array Value}(e:ER C ρ w pe lo t):ER C ρ' w' pe lo t:=
 ⟨e.size,e.nodup,e.lt,e.iY,fun i v t h1 h2=>(e.pe i v t h1 h2).mono x,fun t v h1=>let ⟨a,b,c⟩:=e.lo t v h1;⟨a,b,c.mono x⟩⟩
def iZ (n:Nat)(ρ:ax):ax:=⟨fun b=>if b<n then ρ b else .fresh,ρ.X⟩
theorem cL.cut {ρ:ax}{c:Nat}(n:Nat)(h:cL ρ c):cL (iZ n ρ) c:=by
 refine⟨fun b d hb=>?_,h.2⟩;simp only[iZ]at hb;split at hb
 . exact h.1 b d hb
 . cases hb
theorem fw (h:bh l<=n):∀(i:Nat) x,l[i]? = some x->x.top<=n:=by
 induction l with
 | nil=>intro i x hx;simp at hx
 | cons v r ih=>
  simp only[bh]at h;intro i x hx;cases i with
  | zero=>simp at hx;subst hx;omega
  | succ i=>simp at hx;exact ih (by omega) i x hx
theorem mn (h:∀(i:Nat) x,l[i]? = some x->x.top<=n):bh l<=n:=by
 induction l with
 | nil=>simp[bh]
 | cons v r ih=>
  simp only[bh];have h0:=h 0 v rfl;have h1:=ih (fun i x hx=>h (i+1) x (by simpa using hx));omega
theorem V.gp {ρ ρ':ax}(hρ:∀b,b<n->ρ' b=ρ b)(hF:∀c,cL ρ c->cL ρ' c){a:AV}{v:Value}(hv:V ρ w a v):a.top<=n->V ρ' w a v:=by
 induction hv with
 | cM v=>exact fun _=>.cM v
 | bool b=>exact fun _=>.bool b
 | int k n=>exact fun _=>.int k n
 | str s=>exact fun _=>.str s
 | dj=>exact fun _=>.dj
 | ptr o hb=>exact fun h=>.ptr o (by simp only[AV.top]at h;rw[hρ _ (by omega)];exact hb)
 | dX o c o' hb=>exact fun h=>.dX o c o' (by simp only[AV.top]at h;rw[hρ _ (by omega)];exact hb)
 | vp c o g hf hc _ ih=>exact fun h=>.vp c o g (fun hl=>hF _ (hf hl)) hc (fun i x hx=>ih i x hx (fw (by simpa only[AV.top] using h) i x hx))
 | aa=>exact fun _=>.aa
 | sl hb hl hcap hs=>exact fun h=>.sl (by simp only[AV.top]at h;rw[hρ _ (by omega)];exact hb) hl hcap hs
 | fy hb=>exact fun h=>.fy (by simp only[AV.top]at h;rw[hρ _ (by omega)];exact hb)
 | eK c o' hb hl hcap=>exact fun h=>.eK c o' (by simp only[AV.top]at h;rw[hρ _ (by omega)];exact hb) hl hcap
 | fu hb=>exact fun h=>.fu (by simp only[AV.top]at h;rw[hρ _ (by omega)];exact hb)
 | fz a hb=>exact fun h=>.fz a (by simp only[AV.top]at h;rw[hρ _ (by omega)];exact hb)
 | vs c o g hf hl hcap hc _ ih=>exact fun h=>.vs c o g (fun hn=>hF _ (hf hn)) hl hcap hc (fun i x hx=>ih i x hx (fw (by simpa only[AV.top] using h) i x hx))
 | dY hcap=>exact fun _=>.dY hcap
 | fv a hcap=>exact fun _=>.fv a hcap
 | eC=>exact fun _=>.eC
 | map hb=>exact fun h=>.map (by simp only[AV.top]at h;rw[hρ _ (by omega)];exact hb)
 | hJ v hb=>exact fun h=>.hJ v (by simp only[AV.top]at h;rw[hρ _ (by omega)];exact hb)
 | yield hb=>exact fun h=>.yield (by simp only[AV.top]at h;rw[hρ _ (by omega)];exact hb)
 | @fn f fi ca _ _ hf h1 h2 _ _ ih1 ih2=>
  intro h;have hh:bh fi<=n/\bh ca<=n:=by
   cases f <;> simp only[AV.top]at h <;> exact⟨by omega,by omega⟩
  exact .fn hf h1 h2 (fun i x y a b=>ih1 i x y a b (fw hh.1 i x a)) (fun i x y a b=>ih2 i x y a b (fw hh.2 i x a))
 | gN v hb=>exact fun h=>.gN v (by simp only[AV.top]at h;rw[hρ _ (by omega)];exact hb)
 | fE=>exact fun _=>.fE
 | iface _ ih=>exact fun h=>.iface (ih (by simpa only[AV.top] using h))
 | cS=>exact fun _=>.cS
 | agg hl _ ih=>exact fun h=>.agg hl (fun i x y a b=>ih i x y a b (fw (by simpa only[AV.top] using h) i x a))
 | au hl _ ih=>exact fun h=>.au hl (fun i x y a b=>ih i x y a b (fw (by simpa only[AV.top] using h) i x a))
theorem V.cut {ρ:ax}{a:AV}(hv:V ρ w a v):a.top<=n->V (iZ n ρ) w a v:=
 hv.gp (fun b hb=>by simp only[iZ];rw[if_pos hb]) (fun _ h=>h.cut n)
theorem V.top {ρ:ax}(hn:∀b,n<=b->ρ b = .fresh){a:AV}{v:Value}(hv:V ρ w a v):a.top<=n:=by
 have key:∀b,ρ b≠.fresh->b+1<=n:=fun b hb=>by
  rcases Nat.lt_or_ge b n with h|h
  . omega
  . exact absurd (hn b h) hb
 induction hv with
 | ptr o hb=>exact key _ (by rw[hb];simp)
 | dX o c o' hb=>exact key _ (by rw[hb];simp)
 | vp c o g hf hc _ ih=>exact mn ih
 | sl hb _ _ _=>exact key _ (by rw[hb];simp)
 | fy hb=>exact key _ (by rw[hb];simp)
 | eK c o' hb _ _=>exact key _ (by rw[hb];simp)
 | fu hb=>exact key _ (by rw[hb];simp)
 | fz a hb=>exact key _ (by rw[hb];simp)
 | vs c o g hf hl hcap hc _ ih=>exact mn ih
 | map hb=>exact key _ (by rw[hb];simp)
 | hJ v hb=>exact key _ (by rw[hb];simp)
 | @yield b _ _ hb=>have:=key b (by rw[hb];simp);simp only[AV.top,bh];omega
 | @fn f fi ca fi' ca' hf h1 h2 _ _ ih1 ih2=>
  have a1:bh fi<=n:=mn fun i x hx=>by
   have hi:i<fi'.length:=h1 ▸ (List.getElem?_eq_some_iff.1 hx).1;exact ih1 i x fi'[i] hx (List.getElem?_eq_getElem hi)
  have a2:bh ca<=n:=mn fun i x hx=>by
   have hi:i<ca'.length:=h2 ▸ (List.getElem?_eq_some_iff.1 hx).1;exact ih2 i x ca'[i] hx (List.getElem?_eq_getElem hi)
  cases f <;> simp only[AV.top] <;> first|omega|exact absurd rfl (hf _)
 | @gN b v hb=>have:=key b (by rw[hb];simp);simp only[AV.top,bh];omega
 | iface _ ih=>exact ih
 | @agg l m hl _ ih=>
  exact mn fun i x hx=>by
   have hi:i<m.length:=hl ▸ (List.getElem?_eq_some_iff.1 hx).1;exact ih i x m[i] hx (List.getElem?_eq_getElem hi)
 | @au l m hl _ ih=>
  exact mn fun i x hx=>by
   have hi:i<m.length:=hl ▸ (List.getElem?_eq_some_iff.1 hx).1;exact ih i x m[i] hx (List.getElem?_eq_getElem hi)
 | _=>simp[AV.top,bh]
end Go.Ab
namespace Go.Ab
variable {w w':World} {h:ab} {ρ:ax} {b c:Nat} {O:Obj}
variable {P:Program} {gl:Nat->Option AV}
theorem Hq {a:Addr}(h:w'.heap[a.block]? = w.heap[a.block]?):w'.frozen? a=w.frozen? a:=by
 unfold World.frozen?;rw[h]
theorem BR.mono {h':ab}{ρ':ax}(x:Ext h h' ρ ρ' w w'){b:Nat}(hρ:ρ' b=ρ b)
 (hh:∀c d,ρ b = .live c d->w'.heap[c]? = w.heap[c]?) {o:bw} (hb:BR P gl ρ w b o):BR P gl ρ' w' b o:=by
 cases o with
 | cells l e=>
  rcases hb with ⟨c,d,cs,fr,h1,h2,h3,h4,h5⟩|⟨h1,h2⟩
  . refine .inl ⟨c,d,cs,fr,hρ.trans h1,(hh c d h1).trans h2,h3,fun i hi=>?_,fun i x' y hx hy=>(h5 i x' y hx hy).mono x⟩;rw[Hq (w:=w) (hh c d h1)];exact h4 i hi
  . exact .inr ⟨hρ.trans h1,h2⟩
 | map es=>
  obtain⟨c,ms,clk,h1,h2,h3,h4⟩:=hb;exact⟨c,ms,clk,hρ.trans h1,(hh c 0 h1).trans h2,h3,fun i kx vx m hx hm=>let ⟨a,b⟩:=h4 i kx vx m hx hm;⟨a.mono x,b.mono x⟩⟩
 | iter s pos=>obtain⟨c,h1,h2⟩:=hb;exact⟨c,hρ.trans h1,(hh c 0 h1).trans h2⟩
 | gg=>obtain⟨c,h1,h2⟩:=hb;exact⟨c,hρ.trans h1,(hh c 0 h1).trans h2⟩
 | hole=>exact hρ.trans hb
 | loop st pend pe ps a bd=>
  obtain⟨c,r,aO,N,h1,h2,h3,h4,h5,h6⟩:=hb;exact⟨c,r,aO,N,hρ.trans h1,(hh c 0 h1).trans h2,h3,h4,h5.mono x,h6⟩
theorem BR.live {o:bw}(hb:BR P gl ρ w b o):(∃c d,ρ b = .live c d)\/ρ b = .nil\/ρ b = .fresh:=by
 cases o with
 | cells l e=>
                rcases hb with ⟨c,d,_,_,h1,_⟩|⟨h1,_⟩
                . exact .inl ⟨c,d,h1⟩
                . exact .inr (.inl h1)
 | map es=>obtain⟨c,_,_,h1,_⟩:=hb;exact .inl ⟨c,0,h1⟩
 | iter s pos=>obtain⟨c,h1,_⟩:=hb;exact .inl ⟨c,0,h1⟩
 | gg=>obtain⟨c,h1,_⟩:=hb;exact .inl ⟨c,0,h1⟩
 | hole=>exact .inr (.inr hb)
 | loop=>obtain⟨c,_,_,_,h1,_⟩:=hb;exact .inl ⟨c,0,h1⟩
def ax.dM (ρ:ax)(b:Nat)(s:BS):ax:=⟨fun x=>if x=b then s else ρ x,ρ.X⟩
@[simp] theorem ax.aim (ρ:ax)(b:Nat)(s:BS):(ρ.dM b s).X=ρ.X:=rfl
@[simp] theorem ax.dN (ρ:ax)(b:Nat)(s:BS):ρ.dM b s b=s:=by simp[ax.dM]
theorem ax.de {x:Nat}{s:BS}(h:x≠b):ρ.dM b s x=ρ x:=by simp[ax.dM,h]
theorem AO (hc:c<w.heap.size):(w.heap.push O)[c]? = w.heap[c]? := by
 rw[Array.getElem?_push,if_neg (by omega)]
theorem Ext.alloc (m:Mem P gl ρ h w)(o:Option bw)(O:Obj)(s:BS)(hs:(∃d,s = .live w.heap.size d)\/s = .nil\/s = .dead) :
 Ext h (h++[o]) ρ (ρ.dM h.length s) w { w with heap:=w.heap.push O } where
 os:=rfl
 tape:=rfl
 output:=rfl
 size:=by simp
 len:=by simp
 X:=rfl
 cM b hb:=by
  have hlt:=(List.getElem?_eq_some_iff.1 hb).1;rw[List.getElem?_append_left hlt];exact hb
 same b hb:=by
  have hlt:=(List.getElem?_eq_some_iff.1 hb).1;exact ax.de (by omega)
 live b c d hb:=by
  have:b≠h.length:=fun e=>by rw[m.fresh b (by omega)]at hb;cases hb
  exact .inl ((ax.de this).trans hb)
 dead b hb:=by
  have:b≠h.length:=fun e=>by rw[m.fresh b (by omega)]at hb;cases hb
  exact(ax.de this).trans hb
 nil b hb:=by
  have:b≠h.length:=fun e=>by rw[m.fresh b (by omega)]at hb;cases hb
  exact .inl ((ax.de this).trans hb)
 bR c hc _:=AO hc
 back b c d hb hc:=by
  by_cases e:b=h.length
  . subst e;rw[ax.dN]at hb;rcases hs with ⟨d',rfl⟩|rfl|rfl
    . cases hb;omega
    . cases hb
    . cases hb
  . rw[ax.de e]at hb;exact .inl hb
 shape c cs e fr hc:=⟨cs,fr,by rw[AO (Array.getElem?_eq_some_iff.1 hc).1];exact hc,rfl⟩
theorem Ext.drew (h:ab)(ρ:ax)(w:World)(n:Nat):Ext h h ρ ρ w { w with drawn:=n }:=
 ⟨rfl,rfl,rfl,Nat.le_refl _,Nat.le_refl _,rfl,fun _ h=>h,fun _ _=>rfl,fun _ _ _ h=>.inl h,fun _ h=>h,fun _ h=>.inl h,fun _ _ _=>rfl,fun _ _ _ h _=>.inl h,
  fun _ cs _ fr h=>⟨cs,fr,h,rfl⟩⟩
theorem Mem.ext {ρ':ax}{h':ab}(m:Mem P gl ρ h w)(x:Ext h h' ρ ρ' w w')
 (hb:∀b o,h'[b]? = some (some o)->BR P gl ρ' w' b o) (hf:∀b,h'.length<=b->ρ' b = .fresh)
 (hi:∀b b' c d d',ρ' b = .live c d->ρ' b' = .live c d'->b=b') (hbd:∀b c d,ρ' b = .live c d->c<w'.heap.size):Mem P gl ρ' h' w':=
 ⟨hb,hf,hi,hbd,fun c hc=>Nat.lt_of_lt_of_le (m.xb c (by rw[←x.X];exact hc)) x.size,fun b c d hl hX=>by
  rw[x.X]at hX;have hlt:=m.xb c hX;rcases x.back b c d hl hlt with h1|⟨b0,d0,h1,_⟩
  . exact m.xo _ _ _ h1 hX
  . exact m.xo _ _ _ h1 hX,fun g v hg=>(m.gl g v hg).mono x⟩
theorem Mem.alloc (m:Mem P gl ρ h w)(o:Option bw)(O:Obj)(s:BS)(hs:(∃d,s = .live w.heap.size d)\/s = .nil\/s = .dead)
 (ho:∀o',o=some o'->BR P gl (ρ.dM h.length s) { w with heap:=w.heap.push O } h.length o') :
 Mem P gl (ρ.dM h.length s) (h++[o]) { w with heap:=w.heap.push O }:=by
 have x:=Ext.alloc m o O s hs;refine m.ext x ?_ ?_ ?_ ?_
 . intro b o' hb;rcases Nat.lt_trichotomy b h.length with hlt|heq|hgt
   . rw[List.getElem?_append_left hlt]at hb;refine(m.cQ b o' hb).mono x (ax.de (by omega)) (fun c d hl=>AO (m.bound b c d hl))
   . subst heq;rw[List.getElem?_append_right (Nat.le_refl _)]at hb;simp at hb;exact ho o' hb
   . rw[List.getElem?_eq_none (by simp;omega)]at hb;cases hb
 . intro b hb;simp at hb;rw[ax.de (by omega)];exact m.fresh b (by omega)
 . intro b b' c d d' h1 h2;have bd:∀{x c d},ρ x = .live c d->c<w.heap.size:=fun h=>m.bound _ _ _ h
   by_cases e:b=h.length <;> by_cases e':b'=h.length
   . omega
   . subst e;rw[ax.dN]at h1;rw[ax.de e']at h2;rcases hs with ⟨d0,rfl⟩|rfl|rfl
     . cases h1;have:=bd h2;omega
     . cases h1
     . cases h1
   . subst e';rw[ax.dN]at h2;rw[ax.de e]at h1;rcases hs with ⟨d0,rfl⟩|rfl|rfl
     . cases h2;have:=bd h1;omega
     . cases h2
     . cases h2
   . rw[ax.de e]at h1;rw[ax.de e']at h2;exact m.inj b b' c d d' h1 h2
 . intro b c d hl;show c<(w.heap.push O).size;rw[Array.size_push];by_cases e:b=h.length
   . subst e;rw[ax.dN]at hl;rcases hs with ⟨d0,rfl⟩|rfl|rfl
     . cases hl;omega
     . cases hl
     . cases hl
   . rw[ax.de e]at hl;have:=m.bound b c d hl;omega
theorem Mem.drew (m:Mem P gl ρ h w)(n:Nat):Mem P gl ρ h { w with drawn:=n }:=
 m.ext (Ext.drew h ρ w n) (fun b o hb=>(m.cQ b o hb).mono (Ext.drew h ρ w n) rfl (fun _ _ _=>rfl)) m.fresh m.inj m.bound
def _root_.Go.World.dg (w:World)(c:Nat)(O:Obj):World:={ w with heap:=w.heap.setIfInBounds c O }
theorem nL (hc:c<w.heap.size):(w.dg c O).heap[c]? = some O:=by
 simp[World.dg,hc]
theorem AP {c':Nat}(hc:c'≠c):(w.dg c O).heap[c']? = w.heap[c']? := by
 simp only[World.dg];rw[Array.getElem?_setIfInBounds];rw[if_neg (by omega)]
theorem AQ {o:Option bw}(hb:b<h.length):(h.set b o)[b]? = some o:=by
 rw[List.getElem?_set];simp[hb]
theorem ko {b':Nat}{o:Option bw}(hb:b'≠b):(h.set b o)[b']? = h[b']? := by
 rw[List.getElem?_set];rw[if_neg (by omega)]
theorem Ext.write (m:Mem P gl ρ h w){b c d:Nat}{o0:bw}(h0:h[b]? = some (some o0))(hρ:ρ b = .live c d)(o:Option bw)(O:Obj)
 (hO:∀cs e fr,w.heap[c]? = some (.cells cs e fr)->∃cs' fr',O = .cells cs' e fr'/\cs'.size=cs.size) :
 Ext h (h.set b o) ρ ρ w (w.dg c O) where
 os:=rfl
 tape:=rfl
 output:=rfl
 size:=by simp[World.dg]
 len:=by simp
 X:=rfl
 cM b' hb':=by
  have:b'≠b:=fun e=>by subst e;rw[h0]at hb';cases hb'
  rw[ko this];exact hb'
 same _ _:=rfl
 live _ _ _ h:=.inl h
 dead _ h:=h
 nil _ h:=.inl h
 bR c' hc' hu:=by
  have:c'≠c:=fun e=>by subst e;have:=hu b d hρ;rw[h0]at this;cases this
  exact AP this
 back _ _ _ h _:=.inl h
 shape c' cs e fr hc':=by
  by_cases e':c'=c
  . subst e';obtain⟨cs',fr',rfl,hs⟩:=hO cs e fr hc';exact⟨cs',fr',nL (m.bound _ _ _ hρ),hs⟩
  . exact⟨cs,fr,by rw[AP e'];exact hc',rfl⟩
theorem Mem.write (m:Mem P gl ρ h w){b c d:Nat}{o0:bw}(h0:h[b]? = some (some o0))(hρ:ρ b = .live c d)(o:Option bw)(O:Obj)
 (hO:∀cs e fr,w.heap[c]? = some (.cells cs e fr)->∃cs' fr',O = .cells cs' e fr'/\cs'.size=cs.size)
 (ho:∀o',o=some o'->BR P gl ρ (w.dg c O) b o'):Mem P gl ρ (h.set b o) (w.dg c O):=by
 have x:=Ext.write m h0 hρ o O hO;refine m.ext x ?_ ?_ m.inj ?_
 . intro b' o' hb';by_cases e:b'=b
   . subst e;rw[AQ (List.getElem?_eq_some_iff.1 h0).1]at hb';exact ho o' (Option.some.inj hb')
   . rw[ko e]at hb';exact(m.cQ b' o' hb').mono x rfl (fun c' d' hl=>AP (fun e'=>e (m.inj b' b c d' d (e' ▸ hl) hρ)))
 . intro b' hb';simp at hb';exact m.fresh b' hb'
 . intro b' c' d' hl;have:=m.bound b' c' d' hl;simpa[World.dg] using this
theorem Ext.forget {o0:bw}(h0:h[b]? = some (some o0))(hl:∀c d,ρ b = .live c d->c<w.heap.size) :
 Ext h (h.set b none) ρ (ρ.dM b .dead) w w where
 os:=rfl
 tape:=rfl
 output:=rfl
 size:=Nat.le_refl _
 len:=by simp
 X:=rfl
 cM b' hb':=by
  have:b'≠b:=fun e=>by subst e;rw[h0]at hb';cases hb'
  rw[ko this];exact hb'
 same b' hb':=by
  have:b'≠b:=fun e=>by subst e;rw[h0]at hb';cases hb'
  exact ax.de this
 live b' c d hb':=by
  by_cases e:b'=b
  . subst e;exact .inr (ax.dN _ _ _)
  . exact .inl ((ax.de e).trans hb')
 dead b' hb':=by
  by_cases e:b'=b
  . subst e;exact ax.dN _ _ _
  . exact(ax.de e).trans hb'
 nil b' hb':=by
  by_cases e:b'=b
  . subst e;exact .inr (ax.dN _ _ _)
  . exact .inl ((ax.de e).trans hb')
 bR _ _ _:=rfl
 back b' c d hb' _:=by
  by_cases e:b'=b
  . subst e;rw[ax.dN]at hb';cases hb'
  . rw[ax.de e]at hb';exact .inl hb'
 shape _ cs _ fr h:=⟨cs,fr,h,rfl⟩
theorem Mem.forget (m:Mem P gl ρ h w){b:Nat}{o0:bw}(h0:h[b]? = some (some o0)):Mem P gl (ρ.dM b .dead) (h.set b none) w:=by
 have x:=Ext.forget (w:=w) h0 (fun c d hl=>m.bound b c d hl);have hlt:b<h.length:=(List.getElem?_eq_some_iff.1 h0).1;refine m.ext x ?_ ?_ ?_ ?_
 . intro b' o' hb';by_cases e:b'=b
   . subst e;rw[AQ hlt]at hb';cases hb'
   . rw[ko e]at hb';exact(m.cQ b' o' hb').mono x (ax.de e) (fun _ _ _=>rfl)
 . intro b' hb';simp at hb';rw[ax.de (by omega)];exact m.fresh b' hb'
 . intro b1 b2 c d d' h1 h2;by_cases e1:b1=b
   . subst e1;rw[ax.dN]at h1;cases h1
   . by_cases e2:b2=b
     . subst e2;rw[ax.dN]at h2;cases h2
     . rw[ax.de e1]at h1;rw[ax.de e2]at h2;exact m.inj _ _ _ _ _ h1 h2
 . intro b' c d hl;by_cases e:b'=b
   . subst e;rw[ax.dN]at hl;cases hl
   . rw[ax.de e]at hl;exact m.bound _ _ _ hl
theorem Ext.move (m:Mem P gl ρ h w){b c d:Nat}{o0:bw}(h0:h[b]? = some (some o0))(hρ:ρ b = .live c d)(o:Option bw)(d':Nat) :
 Ext h (h.set b none++[o]) ρ ((ρ.dM b .dead).dM h.length (.live c d')) w w:=by
 have hlt:b<h.length:=(List.getElem?_eq_some_iff.1 h0).1;have x:=Ext.forget (w:=w) h0 (fun c d hl=>m.bound b c d hl);have bR:∀b',ρ b'≠.fresh->b'≠h.length:=fun b' hb e=>hb (m.fresh b' (by omega))
 refine⟨rfl,rfl,rfl,Nat.le_refl _,by simp,rfl,?_,?_,?_,?_,?_,fun _ _ _=>rfl,?_,fun _ cs _ fr h=>⟨cs,fr,h,rfl⟩⟩
 . intro b' hb';have hlt':=(List.getElem?_eq_some_iff.1 hb').1;rw[List.getElem?_append_left (by simpa using hlt')];exact x.cM b' hb'
 . intro b' hb';have hlt':=(List.getElem?_eq_some_iff.1 hb').1;rw[ax.de (by omega)];exact x.same b' hb'
 . intro b' c' d'' hb';rw[ax.de (bR b' (by rw[hb'];simp))];exact x.live b' c' d'' hb'
 . intro b' hb';rw[ax.de (bR b' (by rw[hb'];simp))];exact x.dead b' hb'
 . intro b' hb';rw[ax.de (bR b' (by rw[hb'];simp))];exact x.nil b' hb'
 . intro b' c' d'' hb' hc;by_cases e:b'=h.length
   . subst e;rw[ax.dN]at hb';cases hb';exact .inr ⟨b,d,hρ,by rw[h0];simp⟩
   . rw[ax.de e]at hb';exact x.back b' c' d'' hb' hc
theorem Mem.move (m:Mem P gl ρ h w){b c d:Nat}{o0:bw}(h0:h[b]? = some (some o0))(hρ:ρ b = .live c d)(o:Option bw)(d':Nat)
 (ho:∀o',o=some o'->BR P gl ((ρ.dM b .dead).dM h.length (.live c d')) w h.length o'):Mem P gl ((ρ.dM b .dead).dM h.length (.live c d')) (h.set b none++[o]) w:=by
 have hlt:b<h.length:=(List.getElem?_eq_some_iff.1 h0).1;have x:=Ext.move m h0 hρ o d';have m':=m.forget h0;refine m.ext x ?_ ?_ ?_ ?_
 . intro b' o' hb';rcases Nat.lt_trichotomy b' h.length with hl|he|hg
   . rw[List.getElem?_append_left (by simpa using hl)]at hb';by_cases e:b'=b
     . subst e;rw[AQ hlt]at hb';cases hb'
     . rw[ko e]at hb';exact(m.cQ b' o' hb').mono x (by rw[ax.de (by omega),ax.de e]) (fun _ _ _=>rfl)
   . subst he;rw[List.getElem?_append_right (by simp)]at hb';simp at hb';exact ho o' hb'
   . rw[List.getElem?_eq_none (by simp;omega)]at hb';cases hb'
 . intro b' hb';simp at hb';rw[ax.de (by omega)];exact m'.fresh b' (by simp;omega)
 . intro b1 b2 c1 d1 d2 h1 h2;have key:∀b1 d1,b1≠h.length->(ρ.dM b .dead) b1 = .live c d1->False:=fun b1 d1 e h1=>by
    by_cases e1:b1=b
    . subst e1;rw[ax.dN]at h1;cases h1
    . rw[ax.de e1]at h1;exact e1 (m.inj _ _ _ _ _ h1 hρ)
   by_cases e1:b1=h.length <;> by_cases e2:b2=h.length
   . omega
   . subst e1;rw[ax.dN]at h1;cases h1;rw[ax.de e2]at h2;exact(key _ _ e2 h2).elim
   . subst e2;rw[ax.dN]at h2;cases h2;rw[ax.de e1]at h1;exact(key _ _ e1 h1).elim
   . rw[ax.de e1]at h1;rw[ax.de e2]at h2;exact m'.inj _ _ _ _ _ h1 h2
 . intro b' c' d'' hl;by_cases e:b'=h.length
   . subst e;rw[ax.dN]at hl;cases hl;exact m.bound _ _ _ hρ
   . rw[ax.de e]at hl;exact m'.bound _ _ _ hl
end Go.Ab
