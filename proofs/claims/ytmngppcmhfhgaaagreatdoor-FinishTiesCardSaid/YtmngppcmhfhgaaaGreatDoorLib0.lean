/-
  Own work: an abstract machine for the calls of a translated Go program: values by content, a heap of the blocks that the call itself has made, and an evaluator of resolved code. Definitions only.
-/
import GoSem.Step
import Derived.Laws.Sem
import Derived.CallsIn
import Derived.RangeFuncIn
import Derived.OrdersIn
import Derived.Laws.Strings
import Derived.Laws.StructEq
import Derived.ChangeKeysEq
import Derived.Lib.UnsafeStr
import Derived.IntWalk
import Derived.Laws.BytesString
import Derived.Lib.Builder
import Derived.Lib.ConvBytes
import Derived.Laws.AppendOwn
open Array renaming getElem?_eq_some_iff→b8,toArray_toList→c8,range→db,toList_map→dh
open Bool renaming false_eq_true→b5,not_true→d7,and_eq_true→gF
open ByteArray renaming mk→cd,size→c7,ext→iB
open List renaming getElem?_eq_some_iff→aZ,getElem?_eq_getElem→b7,map_toArray→cK,map_cons→cN,getElem?_take→cV,map_nil→c5,length_take→dF,length_cons→dU,take_length→d6,length_append→ff,getElem?_drop→fg,getElem?_append_left→fF,range'→fM,ext_getElem?→f8,getElem?_set→gc,drop→gT,getElem?_append→ib,take→ii,flatten_cons→i6,range'_succ→i7,foldlM_cons→i8,append_nil→ja
open Nat renaming le_refl→bj,mul_le_mul_right→ce,add_right_comm→dr,lt_of_lt_of_le→d9,zero_le→f7,zero_mul→gU,add_mul→g9,le_trans→iK,lt_trichotomy→i5,mul_one→i9
open Option renaming map_eq_some_iff→az,bind_eq_some_iff→be,some→b6,map_some→d8
open Prod renaming mk→jN
open Go.Result renaming andThen_ok→aW
open Go.Sem renaming run_bind→bc,run_pure→ci
open UInt8 renaming ofNat→c6
open Go.Value renaming int→jj
open Go.World renaming cell?→f6,frozen?→ip,freeze→jR
set_option maxHeartbeats 8000000
set_option maxRecDepth 20000
namespace Go.Ab
theorem ac {P:Prop}(h:P:=by omega):P:=h
theorem am {P:Prop}(h:P:=by decide):P:=h
theorem aq {P:Prop}(h:P:=by simp):P:=h
theorem aw {P:Prop}(h:P:=by grind):P:=h
inductive AV where
 | dj
 | bool (b:Bool)
 | int (k:IntKind) (n:Int)
 | str (s:List UInt8)
 | eK
 | ptr (b off:Nat)
 | vp (l:List AV)
 | ab
 | sl (b off len esz:Nat) (cap:Option Nat)
 | vs (l:List AV) (len:Nat) (cap:Option Nat)
 | eO
 | map (b:Nat)
 | fn (f:Fn) (first captured:List AV)
 | fH
 | iface (t:TypeId) (v:AV)
 | dN
 | agg (l:List AV)
 | ay (l:List AV)
 deriving Inhabited
inductive aO where
 | p (i:Nat)
 | l (t:Nat)
 | c (v:AV)
 deriving Inhabited
inductive FE where
 | ptr|slice|map|func
 deriving Inhabited
inductive gK where
 | bool|int|str|ref (k:FE)|iface (guard:Bool)
 | lv (fs:List (Nat×Nat×Bool×gK))
 deriving Inhabited
inductive lC where
 | str|sl|arr (n:Nat)
 deriving Inhabited
inductive iF where
 | int|str
 deriving Inhabited
inductive bm where
 | mv (x:aO)
 | pick (c a b:aO)
 | bin (op:BinOp) (x y:aO)
 | eq (neg:Bool) (t:gK) (x y:aO)
 | un (op:UnOp) (x:aO)
 | gW (k:IntKind) (x:aO)
 | yC (x:aO)
 | yD (x:aO)
 | oH (elem:TypeId) (x:aO)
 | qF (x:aO)
 | oI (u:Option (TypeId×Nat)) (x:aO)
 | qG (neg:Bool) (x y:aO)
 | yE (x:aO)
 | qH (e:TypeId) (x n:aO)
 | qI (esz:Nat) (z:List AV) (x:aO)
 | tu (x:aO)
 | field (off n:Nat) (agg:Bool) (x:aO)
 | tv (off:Nat) (x:aO)
 | eL (arr:Option Nat) (esz:Nat) (x i:aO)
 | index (x i:aO)
 | yF (len esz:Nat) (agg:Bool) (x i:aO)
 | slice (k:lC) (esz:Nat) (x:aO) (lo hi mx:Option aO)
 | extract (i:Nat) (x:aO)
 | qJ (t:TypeId) (x:aO)
 | yG (t:TypeId) (z:AV) (ok:Bool) (x:aO)
 | tw (f:Fn) (first captured:List aO)
 | build (zero:List AV) (ps:List (Nat×Nat×aO))
 | len (k:lC) (x:aO)
 | cap (x:aO)
 | mm (max:Bool) (xs:List aO)
 | alloc (elem:TypeId) (zero:List AV)
 | box (elem:TypeId) (n:Nat) (x:aO)
 | dX (elem:TypeId) (len esz:Nat) (zero:List AV) (ps:List (Nat×Nat×aO))
 | load (n:Nat) (agg:Bool) (x:aO)
 | store (n:Nat) (x y:aO)
 | mP
 | gM (elem:TypeId) (esz bytes:Nat) (zero:List AV) (l c:aO)
 | lookup (k:iF) (zero:AV) (x i:aO) (ok:Bool)
 | qK (k:iF) (m i x:aO)
 | range (x:aO)
 | next (x:aO)
 | append (elem:TypeId) (esz bytes:Nat) (x y:aO)
 | copy (esz:Nat) (x y:aO)
 | oJ (n esz:Nat) (x:aO) (lo hi:Option aO)
 | qL (x:aO)
 | call (f:aO) (args:List aO)
 | invoke (x:aO) (name:String) (args:List aO)
 deriving Inhabited
inductive fj where
 | no|p (i:Nat)|l (t:Nat)
 deriving Inhabited
structure aY where
 dst:fj
 op:bm
 guard:Option (aO×Bool)
 deriving Inhabited
inductive ao where
 | skip
 | region (ops:List aY)
 | draw (ops:List (aY×List Nat))
 | seq (a b:ao)
 | cond (c:aO) (thn els:ao)
 | block (id:Nat) (body:ao)
 | loop (body:ao)
 | exit (id:Nat)
 | ret
 | rangeFunc (inner:Bool) (f:aO) (ps:List fj) (assign body:ao)
 | bad
 deriving Inhabited
inductive Ex where
 | normal|exit (id:Nat)|ret
 deriving DecidableEq,Inhabited
inductive bR where
 | cells (l:List AV) (elem:TypeId)
 | map (es:List (AV×AV))
 | iter (s:List UInt8) (pos:Nat)
 | gA
 | hole
 | loop (st:LoopState) (pend:Option Ex) (pe:List AV) (ps:List fj) (assign body:ao)
 deriving Inhabited
abbrev ae:=List (Option bR)
inductive fw where
 | var (x:aO)
 | cell (n:Nat) (agg:Bool) (x:aO)
 deriving Inhabited
structure cU where
 N:Nat
 aP:List Nat
 results:List fw
 body:ao
 deriving Inhabited
structure St where
 pe:List AV
 lo:List (Nat×AV)
 hp:ae
 cg:List Nat:=[]
 deriving Inhabited
def St.ah (s:St):aO->Option AV
 | .p i=>s.pe[i]?
 | .l t=>s.lo.lookup t
 | .c v=>some v
def St.cS (s:St):List aO->Option (List AV)
 | []=>some []
 | x::xs=>match s.ah x with
   | some v=>match s.cS xs with
     | some vs=>some (v::vs)
     | none=>none
   | none=>none
def St.dY (s:St):Option aO->Option (Option AV)
 | none=>some none
 | some x=>(s.ah x).map some
def St.put (s:St)(d:fj)(v:AV):St:=
 match d with
 | .no=>s
 | .p i=>{ s with pe:=s.pe.set i v }
 | .l t=>{ s with lo:=(t,v)::s.lo }
def AV.cells:AV->Option (List AV)
 | .dj=>none
 | .agg l=>some l
 | v=>some [v]
def cI:AV->Bool
 | .dj | .agg _ | .ay _=>false
 | _=>true
def cut (l:List AV)(off n:Nat):Option (List AV):=
 let r:=(l.drop off).take n
 if r.length=n then some r else none
def partOf (l:List AV)(off n:Nat)(agg:Bool):Option AV:=
 if agg then (cut l off n).map .agg else l[off]?
def overwrite (l:List AV)(off:Nat)(new:List AV):List AV:=
 l.take off++new++l.drop (off+new.length)
def kA:List AV->List (Nat×Nat×AV)->Option (List AV)
 | cs,[]=>some cs
 | cs,(off,n,v)::rest=>match v.cells with
   | some l=>if l.length=n/\off+n<=cs.length then kA (overwrite cs off l) rest else none
   | none=>none
def St.parts (s:St):List (Nat×Nat×aO)->Option (List (Nat×Nat×AV))
 | []=>some []
 | (o,n,x)::r=>match s.ah x with
   | some v=>match s.parts r with
     | some vs=>some ((o,n,v)::vs)
     | none=>none
   | none=>none
def qM:AV->Option Int
 | .int _ n=>some n
 | _=>none
def ae.at (h:ae)(b:Nat):Option bR:=(h[b]?).join
def fV (h:ae):AV->Option (List AV)
 | .ptr b off=>match h.at b with|some (.cells l _)=>some (l.drop off)|_=>none
 | .vp l=>some l
 | _=>none
def gN (h:ae):AV->Option (List AV×Nat)
 | .ab=>some ([],0)
 | .vs l n _=>some (l,n)
 | .sl b off n esz _=>match h.at b with
   | some (.cells l _)=>(cut l off (n*esz)).map (·,n)
   | _=>if n=0 then some ([],0) else none
 | .str s=>some (s.map fun c=>.int .u8 c.toNat,s.length)
 | _=>none
def jk:FE->AV->AV->Option Bool
 | .ptr,.eK,.eK=>some true
 | .ptr,.eK,.ptr _ _=>some false
 | .ptr,.eK,.vp _=>some false
 | .ptr,.ptr _ _,.eK=>some false
 | .ptr,.vp _,.eK=>some false
 | .slice,.ab,.ab=>some true
 | .slice,.ab,.sl _ _ (_+1) _ _=>some false
 | .slice,.sl _ _ (_+1) _ _,.ab=>some false
 | .slice,.ab,.sl _ _ 0 _ (some _)=>some false
 | .slice,.sl _ _ 0 _ (some _),.ab=>some false
 | .slice,.ab,.vs (_::_) _ _=>some false
 | .slice,.vs (_::_) _ _,.ab=>some false
 | .map,.eO,.eO=>some true
 | .map,.eO,.map _=>some false
 | .map,.map _,.eO=>some false
 | .func,.fH,.fH=>some true
 | .func,.fH,.fn _ _ _=>some false
 | .func,.fn _ _ _,.fH=>some false
 | _,_,_=>none
def goEq (rec:gK->AV->AV->Option Bool):List (Nat×Nat×Bool×gK)->List AV->List AV->Option Bool
 | [],_,_=>some true
 | (off,n,ag,t)::rest,xs,ys=>
  match partOf xs off n ag,partOf ys off n ag with
  | some x,some y=>match rec t x y with
    | some true=>goEq rec rest xs ys
    | some false=>some false
    | none=>none
  | _,_=>none
def dG:Nat->gK->AV->AV->Option Bool
 | 0,_,_,_=>none
 | d+1,t,x,y=>
  match t,x,y with
  | .bool,.bool a,.bool b=>some (a == b)
  | .int,.int k a,.int k' b=>if k=k' then some (a == b) else none
  | .str,.str a,.str b=>some (a == b)
  | .ref k,x,y=>jk k x y
  | .iface g,.dN,.dN=>if g then none else some true
  | .iface _,.dN,.iface _ _=>some false
  | .iface _,.iface _ _,.dN=>some false
  | .lv fs,.agg xs,.agg ys=>goEq (fun t x y=>dG d t x y) fs xs ys
  | _,_,_=>none
def dy (op:BinOp)(x y:AV):Option AV:=
 match x,y with
 | .int k a,.int k' b=>
  match op with
  | .shl=>if b<0 then none else some (.int k (k.wrap (a*2^(min b.toNat k.bits))))
  | .shr=>if b<0 then none else some (.int k (a.fdiv (2^(min b.toNat k.bits))))
  | op=>if k=k' then
      match op with
      | .add=>some (.int k (k.wrap (a+b)))
      | .sub=>some (.int k (k.wrap (a-b)))
      | .mul=>some (.int k (k.wrap (a*b)))
      | .quo=>if b=0 then none else some (.int k (k.wrap (a.tdiv b)))
      | .rem=>if b=0 then none else some (.int k (a.tmod b))
      | .and=>some (.int k (k.wrap (BitVec.ofInt k.bits a &&& BitVec.ofInt k.bits b).toNat))
      | .or=>some (.int k (k.wrap (BitVec.ofInt k.bits a ||| BitVec.ofInt k.bits b).toNat))
      | .xor=>some (.int k (k.wrap (BitVec.ofInt k.bits a ^^^ BitVec.ofInt k.bits b).toNat))
      | .andNot=>some (.int k (k.wrap (BitVec.ofInt k.bits a &&& ~~~ BitVec.ofInt k.bits b).toNat))
      | .eql=>some (.bool (a == b))
      | .neq=>some (.bool (a != b))
      | .lss=>some (.bool (a<b))
      | .leq=>some (.bool (a<=b))
      | .gtr=>some (.bool (a > b))
      | .geq=>some (.bool (a>=b))
      | _=>none
    else none
 | .str a,.str b=>
  match op with
  | .add=>if a.length+b.length<2^62 then some (.str (a++b)) else none
  | .eql=>some (.bool (a == b))
  | .neq=>some (.bool !(a == b))
  | .lss=>some (.bool (Op.bytesLess a b))
  | .leq=>some (.bool (Op.bytesLess a b || a == b))
  | .gtr=>some (.bool !(Op.bytesLess a b || a == b))
  | .geq=>some (.bool !(Op.bytesLess a b))
  | _=>none
 | _,_=>none
def tx (op:UnOp)(x:AV):Option AV:=
 match op,x with
 | .neg,.int k n=>some (.int k (k.wrap (0-n)))
 | .not,.bool b=>some (.bool !b)
 | .xor,.int k n=>some (.int k (k.wrap (BitVec.ofInt k.bits (if k.signed then -1 else k.max) ^^^ BitVec.ofInt k.bits n).toNat))
 | _,_=>none
def oK (k:IntKind)(x:AV):Option AV:=
 match x with
 | .int _ n=>some (.int k (k.wrap n))
 | _=>none
def yH (off:Nat)(x:AV):Option AV:=
 match x with
 | .ptr b o=>some (.ptr b (o+off))
 | .vp l=>some (.vp (l.drop off))
 | _=>none
def oM (arr:Option Nat)(esz:Nat)(x i:AV):Option AV:=
 match i with
 | .int _ n=>
  match arr,x with
  | some len,.ptr b o=>if 0<=n/\n<len then some (.ptr b (o+n.toNat*esz)) else none
  | some len,.vp l=>if 0<=n/\n<len then some (.vp (l.drop (n.toNat*esz))) else none
  | none,.sl b o len e _=>if 0<=n/\n<len/\e=esz then some (.ptr b (o+n.toNat*esz)) else none
  | none,.vs l len _=>if 0<=n/\n<len then some (.vp (l.drop (n.toNat*esz))) else none
  | _,_=>none
 | _=>none
def tz (x i:AV):Option AV:=
 match x,i with
 | .str s,.int _ n=>if 0<=n then (s[n.toNat]?).map fun c=>.int .u8 c.toNat else none
 | _,_=>none
def bZ (x:Option AV)(dflt most:Nat):Option Nat:=
 match x with
 | none=>some dflt
 | some (.int _ n)=>if 0<=n/\n<=most then some n.toNat else none
 | some _=>none
def jD (k:lC)(esz:Nat)(x:AV)(lo hi mx:Option AV):Option AV:=
 match k,x,mx with
 | .str,.str s,none=>
  match bZ hi s.length s.length with
  | some h=>match bZ lo 0 h with
    | some l=>some (.str ((s.drop l).take (h-l)))
    | none=>none
  | none=>none
 | .sl,.ab,none=>
  match bZ hi 0 0,bZ lo 0 0 with
  | some _,some _=>some .ab
  | _,_=>none
 | .sl,.ab,some m=>
  match bZ (some m) 0 0,bZ hi 0 0,bZ lo 0 0 with
  | some _,some _,some _=>some .ab
  | _,_,_=>none
 | .sl,.sl b o len e cap,none=>
  if e=esz then
   match bZ hi len (cap.getD len) with
   | some h=>match bZ lo 0 h with
     | some l=>
      if l<h then some (.sl b (o+l*esz) (h-l) esz (cap.map (· - l)))
      else some (.vs [] 0 (cap.map (· - l)))
     | none=>none
   | none=>none
  else none
 | .sl,.sl b o len e cap,some m=>
  if e=esz then
   match bZ (some m) len (cap.getD len) with
   | some m=>match bZ hi len m with
     | some h=>match bZ lo 0 h with
       | some l=>
        if l<h then some (.sl b (o+l*esz) (h-l) esz (some (m-l)))
        else some (.vs [] 0 (some (m-l)))
       | none=>none
     | none=>none
   | none=>none
  else none
 | .sl,.vs c len cap,none=>
  match bZ hi len len with
  | some h=>match bZ lo 0 h with
    | some l=>some (.vs ((c.drop (l*esz)).take ((h-l)*esz)) (h-l) (cap.map (· - l)))
    | none=>none
  | none=>none
 | .sl,.vs c len _,some m=>
  match bZ (some m) len len with
  | some m=>match bZ hi len m with
    | some h=>match bZ lo 0 h with
      | some l=>some (.vs ((c.drop (l*esz)).take ((h-l)*esz)) (h-l) (some (m-l)))
      | none=>none
    | none=>none
  | none=>none
 | _,_,_=>none
def tA (k:lC)(x:AV):Option AV:=
 match k,x with
 | .str,.str s=>some (.int .i64 s.length)
 | .sl,.ab=>some (.int .i64 0)
 | .sl,.sl _ _ n _ _=>some (.int .i64 n)
 | .sl,.vs _ n _=>some (.int .i64 n)
 | _,_=>none
def mQ (max:Bool):AV->List AV->Option AV
 | x,[]=>some x
 | .int k a,.int k' b::rest=>
  if k=k' then mQ max (.int k (if max then (if b > a then b else a) else (if b<a then b else a))) rest else none
 | _,_=>none
def yI (x:AV):Option AV:=
 match x with
 | .ptr _ _ | .vp _=>some x
 | .fn (.func _) _ _=>some x
 | .fn (.yield _) _ _=>some x
 | _=>none
def bk (s:St)(io:bm):Option AV:=
 match io with
 | .mv x=>s.ah x
 | .pick c a b=>match s.ah c,s.ah a,s.ah b with
   | some (.bool t),some a,some b=>some (if t then a else b)
   | some (.bool t),some a,none=>if t then some a else none
   | some (.bool t),none,some b=>if t then none else some b
   | _,_,_=>none
 | .bin op x y=>match s.ah x,s.ah y with
   | some a,some b=>dy op a b
   | _,_=>none
 | .eq neg t x y=>match s.ah x,s.ah y with
   | some a,some b=>match dG 100 t a b with
     | some r=>some (.bool (if neg then !r else r))
     | none=>none
   | _,_=>none
 | .un op x=>(s.ah x).bind (tx op)
 | .gW k x=>(s.ah x).bind (oK k)
 | .yC x=>match s.ah x with
   | some (.int _ n)=>some (.str (Utf8.encode n).data.toList)
   | _=>none
 | .yD x=>match s.ah x with
   | some (.str t)=>some (.str t)
   | _=>none
 | .tu x=>(s.ah x).bind yI
 | .field off n ag x=>match s.ah x with
   | some (.agg l)=>partOf l off n ag
   | _=>none
 | .tv off x=>(s.ah x).bind (yH off)
 | .eL arr esz x i=>match s.ah x,s.ah i with
   | some a,some b=>oM arr esz a b
   | _,_=>none
 | .index x i=>match s.ah x,s.ah i with
   | some a,some b=>tz a b
   | _,_=>none
 | .yF len esz ag x i=>match s.ah x,s.ah i with
   | some (.agg l),some (.int _ n)=>if 0<=n/\n<len then partOf l (n.toNat*esz) esz ag else none
   | _,_=>none
 | .slice k esz x lo hi mx=>match s.ah x with
   | some a=>
    match s.dY lo,s.dY hi,s.dY mx with
    | some l,some h,some m=>if m.isNone || h.isSome then jD k esz a l h m else none
    | _,_,_=>none
   | none=>none
 | .extract i x=>match s.ah x with
   | some (.ay l)=>l[i]?
   | _=>none
 | .qJ t x=>(s.ah x).map (.iface t)
 | .yG t z ok x=>match s.ah x with
   | some (.iface u v)=>if u=t then some (if ok then .ay [v,.bool true] else v) else if ok then some (.ay [z,.bool false]) else none
   | some .dN=>if ok then some (.ay [z,.bool false]) else none
   | _=>none
 | .tw f fi ca=>match s.cS fi,s.cS ca with
   | some a,some b=>some (.fn f a b)
   | _,_=>none
 | .build zero ps=>match s.parts ps with
   | some vs=>(kA zero vs).map .agg
   | none=>none
 | .len k x=>match k with
   | .arr n=>some (.int .i64 n)
   | k=>(s.ah x).bind (tA k)
 | .cap x=>match s.ah x with
   | some .ab=>some (.int .i64 0)
   | some (.sl _ _ _ _ (some c))=>some (.int .i64 c)
   | some (.vs _ _ (some c))=>some (.int .i64 c)
   | _=>none
 | .mm mx xs=>match s.cS xs with
   | some (.int k a::rest)=>mQ mx (.int k a) rest
   | _=>none
 | .yE x=>match s.ah x with
   | some .ab=>some .eK
   | some (.sl b o (_+1) _ _)=>some (.ptr b o)
   | _=>none
 | _=>none
def bm.bM:bm->Bool
 | .alloc .. | .box .. | .dX .. | .load .. | .store .. | .mP | .gM .. | .lookup .. | .qK .. | .range .. | .next .. | .append .. | .copy .. | .oJ .. | .qL .. | .call .. | .invoke .. | .qF .. | .oH .. | .oI .. | .qG .. | .qH .. | .qI .. => true
 | _=>false
def tB:List (Nat×Nat×aO)->List aO
 | []=>[]
 | (_,_,x)::r=>x::tB r
def bm.gO:bm->List aO
 | .mv x | .un _ x | .gW _ x | .yC x | .yD x | .oH _ x | .qF x | .tu x | .field _ _ _ x | .tv _ x | .extract _ x | .qJ _ x
 | .len _ x | .cap x | .box _ _ x | .load _ _ x | .range x | .next x | .qL x | .oI _ x | .yE x | .yG _ _ _ x | .qI _ _ x=>[x]
 | .pick c a b=>[c,a,b]
 | .bin _ x y | .eq _ _ x y | .eL _ _ x y | .index x y | .yF _ _ _ x y | .store _ x y | .gM _ _ _ _ x y | .lookup _ _ x y _ | .append _ _ _ x y | .copy _ x y | .qG _ x y | .qH _ x y=>[x,y]
 | .slice _ _ x lo hi mx=>x::(lo.toList++hi.toList++mx.toList)
 | .oJ _ _ x lo hi=>x::(lo.toList++hi.toList)
 | .tw _ fi ca=>fi++ca
 | .build _ ps | .dX _ _ _ _ ps=>tB ps
 | .mm _ xs=>xs
 | .alloc .. | .mP=>[]
 | .qK _ m i x=>[m,i,x]
 | .call f as | .invoke f _ as=>f::as
def aY.gO (o:aY):List aO:=(match o.guard with|some (x,_)=>[x]|none=>[])++o.op.gO
def dZ:fj->aO->Bool
 | .p i,.p j=>i == j
 | .l t,.l u=>t == u
 | _,_=>false
def FF:fj->fj->Bool
 | .p i,.p j=>i == j
 | .l t,.l u=>t == u
 | _,_=>false
def oO (a b:aY):Bool:=(b.gO.all fun x=>!dZ a.dst x) && (a.gO.all fun x=>!dZ b.dst x) && !FF a.dst b.dst
structure HR where
 v:AV
 h:ae
 wr:List Nat
def cG:AV:=.ay []
def ae.put (h:ae)(b:Nat)(o:Option bR):ae:=h.set b o
def qN:AV->AV->Option Bool
 | .int k a,.int k' b=>if k=k' then some (a == b) else none
 | .str a,.str b=>some (a == b)
 | _,_=>none
def kB (k:AV):List (AV×AV)->Nat->Option (Option (Nat×AV))
 | [],_=>some none
 | (k',v)::r,i=>match qN k k' with
   | some true=>some (some (i,v))
   | some false=>kB k r (i+1)
   | none=>none
def iF.ok:iF->AV->Bool
 | .int,.int _ _=>true
 | .str,.str _=>true
 | _,_=>false
def gP (zero:List AV):Nat->List AV
 | 0=>[]
 | n+1=>zero++gP zero n
def bytesOf:List AV->Option (List UInt8)
 | []=>some []
 | .int .u8 n::r=>match bytesOf r with
   | some l=>some (c6 n.toNat::l)
   | none=>none
 | _=>none
def dO:Nat:=2^46
def kC (elem:TypeId)(esz bytes:Nat)(h:ae)(x y:AV):Option HR:=
 match gN h y with
 | none=>none
 | some (new,n)=>
  if new.length=n*esz/\0<bytes/\new.all cI=true then
   match x with
   | .ab=>
    if n=0 then some ⟨.ab,h,[]⟩
    else if n*bytes<=dO then some ⟨.sl h.length 0 n esz none,h++[some (.cells new elem)],[]⟩ else none
   | .vs l len cap=>
    if n=0 then some ⟨x,h,[]⟩ else
    match cap with
    | some c=>if c<len+n/\(len+n)*bytes<=dO/\l.length=len*esz then some ⟨.sl h.length 0 (len+n) esz none,h++[some (.cells (l++new) elem)],[]⟩ else none
    | none=>none
   | .sl b off len e cap=>
    if n=0 then some ⟨x,h,[]⟩ else
    if e=esz/\(len+n)*bytes<=dO then
     match h.at b with
     | some (.cells l el)=>
      match cap with
      | some c=>
       if len+n<=c then
        if off+(len+n)*esz<=l.length then some ⟨.sl b off (len+n) esz cap,h.put b (some (.cells (overwrite l (off+len*esz) new) el)),[b]⟩ else none
       else match cut l off (len*esz) with
        | some cT=>some ⟨.sl h.length 0 (len+n) esz none,h++[some (.cells (cT++new) elem)],[]⟩
        | none=>none
      | none=>
       if l.length=off+len*esz/\el=elem then
        some ⟨.sl h.length 0 (len+n) esz none,h.put b none++[some (.cells (l.drop off++new) elem)],[b]⟩
       else none
     | _=>none
    else none
   | _=>none
  else none
def bU (s:St)(io:bm)(h:ae):Option HR:=
 match io with
 | .alloc elem zero=>some ⟨.ptr h.length 0,h++[some (.cells zero elem)],[]⟩
 | .box elem n x=>match (s.ah x).bind AV.cells with
   | some l=>if l.length=n then some ⟨.ptr h.length 0,h++[some (.cells l elem)],[]⟩ else none
   | none=>none
 | .dX elem len esz zero ps=>match s.parts ps with
   | some vs=>match kA (gP zero len) vs with
     | some l=>if l.length=len*esz then some ⟨.sl h.length 0 len esz (some len),h++[some (.cells l elem)],[]⟩ else none
     | none=>none
   | none=>none
 | .load n ag x=>match (s.ah x).bind (fV h) with
   | some l=>match partOf l 0 n ag with
     | some v=>some ⟨v,h,[]⟩
     | none=>none
   | none=>none
 | .store n x y=>match s.ah x,(s.ah y).bind AV.cells with
   | some (.ptr b off),some new=>match h.at b with
     | some (.cells l el)=>if new.length=n/\off+n<=l.length/\new.all cI=true then some ⟨cG,h.put b (some (.cells (overwrite l off new) el)),[b]⟩ else none
     | _=>none
   | _,_=>none
 | .mP=>some ⟨.map h.length,h++[some (.map [])],[]⟩
 | .gM elem esz bytes zero l c=>match (s.ah l).bind qM,(s.ah c).bind qM with
   | some a,some b=>
    if 0<=a/\a<=b/\b.toNat*bytes<=dO/\b<=2^46/\zero.length=esz then some ⟨.sl h.length 0 a.toNat esz (some b.toNat),h++[some (.cells (gP zero b.toNat) elem)],[]⟩ else none
   | _,_=>none
 | .lookup kt zero x i ok=>match s.ah x,s.ah i with
   | some m,some k=>
    if kt.ok k then
     let es? : Option (List (AV×AV)):=match m with
      | .eO=>some []
      | .map b=>match h.at b with|some (.map es)=>some es|_=>none
      | _=>none
     match es? with
     | some es=>match kB k es 0 with
       | some r=>
        let v:=match r with|some (_,v)=>v|none=>zero
        some ⟨if ok then .ay [v,.bool r.isSome] else v,h,[]⟩
       | none=>none
     | none=>none
    else none
   | _,_=>none
 | .qK kt m i x=>match s.ah m,s.ah i,s.ah x with
   | some (.map b),some k,some v=>
    if kt.ok k then
     match h.at b with
     | some (.map es)=>match kB k es 0 with
       | some (some (j,_))=>some ⟨cG,h.put b (some (.map (es.set j (k,v)))),[b]⟩
       | some none=>some ⟨cG,h.put b (some (.map (es++[(k,v)]))),[b]⟩
       | none=>none
     | _=>none
    else none
   | _,_,_=>none
 | .range x=>match s.ah x with
   | some (.str t)=>some ⟨.ptr h.length 0,h++[some (.iter t 0)],[]⟩
   | _=>none
 | .next x=>match s.ah x with
   | some (.ptr b 0)=>match h.at b with
     | some (.iter t pos)=>
      if pos<t.length then
       let (c,w):=Utf8.decode ⟨t.toArray⟩ pos
       some ⟨.ay [.bool true,.int .i64 pos,.int .i32 c],h.put b (some (.iter t (pos+w))),[b]⟩
      else some ⟨.ay [.bool false],h,[]⟩
     | _=>none
   | _=>none
 | .append elem esz bytes x y=>match s.ah x,s.ah y with
   | some a,some b=>kC elem esz bytes h a b
   | _,_=>none
 | .qI esz z x=>match s.ah x with
   | some (.sl b off len e _)=>
    if e=esz/\z.all cI=true/\z.length=esz/\0<len then
     match h.at b with
     | some (.cells l el)=>if off+len*esz<=l.length then some ⟨.ay [],h.put b (some (.cells (overwrite l off (gP z len)) el)),[b]⟩ else none
     | _=>none
    else none
   | some (.vs [] 0 _)=>some ⟨.ay [],h,[]⟩
   | some .ab=>some ⟨.ay [],h,[]⟩
   | _=>none
 | .copy esz x y=>match s.ah x,s.ah y with
   | some (.sl b off len e _),some y=>
    match gN h y with
    | some (src,n)=>
     if e=esz/\src.length=n*esz/\src.all cI=true then
      let m:=min n len
      match h.at b with
      | some (.cells l el)=>if off+m*esz<=l.length then some ⟨.int .i64 m,h.put b (some (.cells (overwrite l off (src.take (m*esz))) el)),[b]⟩ else none
      | _=>none
     else none
    | none=>none
   | some .ab,some y=>match gN h y with
     | some (src,n)=>if src.length=n*esz then some ⟨.int .i64 0,h,[]⟩ else none
     | none=>none
   | _,_=>none
 | .oJ n esz x lo hi=>match s.ah x,s.dY lo,s.dY hi with
   | some (.ptr b o),some lo,some hi=>match h.at b with
     | some (.cells l _)=>
      if o+n*esz<=l.length then
       match bZ hi n n with
       | some hh=>match bZ lo 0 hh with
         | some ll=>some ⟨if ll<n then .sl b (o+ll*esz) (hh-ll) esz (some (n-ll)) else .vs [] 0 (some 0),h,[]⟩
         | none=>none
       | none=>none
      else none
     | _=>none
   | _,_,_=>none
 | .qL x=>match s.ah x with
   | some (.map b)=>match h.at b with
     | some (.map es)=>some ⟨.int .i64 es.length,h,[]⟩
     | _=>none
   | some .eO=>some ⟨.int .i64 0,h,[]⟩
   | _=>none
 | .oH elem x=>match s.ah x with
   | some (.str t)=>some ⟨.sl h.length 0 t.length 1 none,h++[some (.cells (t.map fun c=>.int .u8 c.toNat) elem)],[]⟩
   | _=>none
 | .qF x=>match s.ah x with
   | some (.str _)=>none
   | some y=>match gN h y with
     | some (l,n)=>if l.length=n then
         match bytesOf l with
         | some t=>some ⟨.str t,h,[]⟩
         | none=>none
       else none
     | none=>none
   | none=>none
 | .oI u x=>match s.ah x with
   | some (.ptr b o)=>match h.at b with
     | some (.cells l e)=>
      if o<l.length/\(match u with|none=>true|some (t,n)=>decide (o=0/\e=t/\l.length=n))=true then some ⟨.ptr b o,h,[]⟩ else none
     | _=>none
   | _=>none
 | .qG neg x y=>match s.ah x,s.ah y with
   | some (.ptr b o),some (.ptr b' o')=>match h.at b with
     | some (.cells _ _)=>if b=b'/\o=o' then some ⟨.bool !neg,h,[]⟩ else none
     | _=>none
   | _,_=>none
 | .qH e x n=>match s.ah x,s.ah n with
   | some .eK,some (.int _ k)=>if k=0 then some ⟨.str [],h,[]⟩ else none
   | some (.ptr b o),some (.int _ k)=>
    if 0<k/\k<=2^46 then
     match h.at b with
     | some (.cells l el)=>
      if el=e then
       match cut l o k.toNat with
       | some c=>match bytesOf c with
         | some t=>some ⟨.str t,h.put b none,[b]⟩
         | none=>none
       | none=>none
      else none
     | _=>none
    else none
   | _,_=>none
 | _=>none
abbrev ee:=AV->List AV->ae->Option HR
abbrev eW:=TypeId->String->Option FuncId
def bX (call:ee)(inv:eW)(s:St)(io:bm):Option HR:=
 match io with
 | .call f args=>match s.ah f,s.cS args with
   | some g,some as=>call g as s.hp
   | _,_=>none
 | .invoke x name args=>match s.ah x,s.cS args with
   | some (.iface t v),some as=>match inv t name with
     | some f=>call (.fn (.func f) [] []) (v::as) s.hp
     | none=>none
   | _,_=>none
 | io=>if io.bM then bU s io s.hp else (bk s io).map fun v=>⟨v,s.hp,[]⟩
def eZ (s:St)(g:Option (aO×Bool)):Option Bool:=
 match g with
 | none=>some true
 | some (x,want)=>match s.ah x with
   | some (.bool b)=>some (b == want)
   | some (.ay _)=>some false
   | _=>none
structure au where
 s:St
 wr:List Nat
def fk (call:ee)(inv:eW):List aY->au->Option au
 | [],s=>some s
 | o::rest,s=>match eZ s.s o.guard with
   | some true=>match bX call inv s.s o.op with
     | some r=>fk call inv rest ⟨{ s.s.put o.dst r.v with hp:=r.h },r.wr++s.wr⟩
     | none=>none
   | some false=>fk call inv rest ⟨s.s.put o.dst cG,s.wr⟩
   | none=>none
def mask (h:ae)(U:List Nat):ae:=U.foldl (fun h b=>h.set b none) h
def eu (T:List Nat):ae->Nat->ae
 | [],_=>[]
 | o::r,i=>(if T.contains i then o else none)::eu T r (i+1)
def fA (wr:List Nat):ae->ae->Nat->ae
 | o::h,n::h',i=>(if wr.contains i then n else o)::fA wr h h' (i+1)
 | [],h',_=>h'
 | h,[],_=>h
def lE (s:St)(io:bm):Option (List Nat):=
 let dm (x:aO):List Nat:=match s.ah x with
  | some (.ptr b _)=>[b]
  | some (.sl b _ _ _ _)=>[b]
  | some (.map b)=>[b]
  | _=>[]
 match io with
 | .alloc .. | .box .. | .dX .. | .mP | .gM .. | .range _ | .oH .. => some []
 | .load _ _ x | .next x | .qL x | .qF x | .store _ x _ | .lookup _ _ x _ _ | .qK _ x _ _=>some (dm x)
 | .append _ _ _ x y | .copy _ x y | .qG _ x y=>some (dm x++dm y)
 | .oI _ x | .qH _ x _ | .qI _ _ x=>some (dm x)
 | .oJ _ _ x _ _=>some (dm x)
 | .call .. | .invoke .. => none
 | _=>some []
structure ck where
 jZ:Option (List Nat)
 wr:List Nat
 lo:Nat
 hi:Nat
def ck.own (d:ck):List Nat:=d.wr++fM d.lo (d.hi-d.lo)
def iP (a b:List Nat):Bool:=a.all fun x=>!b.contains x
def dS (call:ee)(inv:eW):List (aY×List Nat)->au->List ck->Option au
 | [],s,_=>some s
 | (o,un)::rest,s,ds=>match eZ s.s o.guard with
   | some true=>
    if o.op.bM then
     let U:=un.flatMap fun j=>(ds[j]?).elim [] ck.own
     let t:=lE s.s o.op
     if (match t with|some T=>iP T U|none=>true) then
      let h0:=match t with|some T=>eu T s.s.hp 0|none=>mask s.s.hp U
      match bX call inv { s.s with hp:=h0 } o.op with
      | some r=>
       if (r.wr.all fun b=>(h0.at b).isSome) && (r.wr.isEmpty || un.all (fun j=>match ds[j]? with|some d=>(match d.jZ with|some T=>iP r.wr T|none=>false)|none=>false)) then
        dS call inv rest ⟨{ s.s.put o.dst r.v with hp:=fA r.wr s.s.hp r.h 0 },r.wr++s.wr⟩ (ds++[⟨t,r.wr,s.s.hp.length,r.h.length⟩])
       else none
      | none=>none
     else none
    else match bk s.s o.op with
     | some v=>dS call inv rest ⟨s.s.put o.dst v,s.wr⟩ (ds++[⟨some [],[],s.s.hp.length,s.s.hp.length⟩])
     | none=>none
   | some false=>dS call inv rest ⟨s.s.put o.dst cG,s.wr⟩ (ds++[⟨some [],[],s.s.hp.length,s.s.hp.length⟩])
   | none=>none
mutual
def AV.top:AV->Nat
 | .ptr b _=>b+1
 | .sl b _ _ _ _=>b+1
 | .map b=>b+1
 | .vp l=>bz l
 | .vs l _ _=>bz l
 | .fn f a b=>max (match f with | .yield l=>l+1|_=>0) (max (bz a) (bz b))
 | .iface _ v=>v.top
 | .agg l=>bz l
 | .ay l=>bz l
 | _=>0
def bz:List AV->Nat
 | []=>0
 | v::r=>max v.top (bz r)
end
def bR.top:bR->Nat
 | .cells l _=>bz l
 | .map es=>mR es
 | .iter _ _=>0
 | .gA=>0
 | .hole=>0
 | .loop _ _ pe _ _ _=>bz pe
where
 mR:List (AV×AV)->Nat
  | []=>0
  | (k,v)::r=>max (max k.top v.top) (mR r)
def tight (h:ae)(n:Nat)(wr:List Nat):Bool:=
 wr.all fun b=>match h.at b with
  | some o=>b>=n || o.top<=n
  | none=>true
def dH (s:St):List fw->Option (List AV)
 | []=>some []
 | r::rest=>
  let v? : Option AV:=match r with
   | .var x=>s.ah x
   | .cell n ag x=>(s.ah x).bind fun p=>(fV s.hp p).bind fun l=>partOf l 0 n ag
  match v?,dH s rest with
  | some v,some vs=>some (v::vs)
  | _,_=>none
def aV:List AV->AV
 | [v]=>v
 | vs=>.ay vs
def fW (v:AV)(n:Nat)(s:au):HR:=
 if v.top<=n && tight s.s.hp n s.wr then ⟨v,s.s.hp.take n,s.wr.filter (· < n)⟩
 else ⟨v,s.s.hp,s.wr.filter (· < n)⟩
def kD:List Nat->au->Option au
 | [],s=>some s
 | d::r,s=>match s.s.hp.at d with
   | some .gA=>kD r ⟨{ s.s with hp:=s.s.hp.put d none },d::s.wr⟩
   | _=>none
def oT (s:St):List fj->List AV->Option St
 | [],[]=>some s
 | d::ds,v::vs=>oT (s.put d v) ds vs
 | _,_=>none
def gQ (run:ao->au->Option (Ex×au))(FT:FuncId->Option cU)(f:FuncId)(all:List AV)(h:ae):Option HR:=
 match FT f with
 | some fi=>
  if fi.N<all.length then none else
  match run fi.body ⟨⟨fi.aP.map (fun t=>(all[t]?).getD cG),[],h,[]⟩,[]⟩ with
  | some (e,s)=>
   if e = .normal\/e = .ret then
    match kD s.s.cg s with
    | some s=>match dH s.s fi.results with
      | some vs=>some (fW (aV vs) h.length s)
      | none=>none
    | none=>none
   else none
  | none=>none
 | none=>none
def iq (run:ao->au->Option (Ex×au))(ext:FuncId->List AV->ae->Option HR)(FT:FuncId->Option cU):ee:=fun g as h=>
 match g with
 | .fn (.func f) first cap=>
  match ext f (first++as++cap) h with
  | some r=>some r
  | none=>gQ run FT f (first++as++cap) h
 | .fn (.yield b) [] []=>
  match h.at b with
  | some (.loop .ready none pe ps a bd)=>
   match oT ⟨pe,[],h,[]⟩ ps as with
   | some s0=>match run a ⟨s0,[]⟩ with
     | some (.normal,s1)=>match s1.s.hp.at b with
       | some (.loop .ready none pe' ps' a' bd')=>
        match run bd ⟨{ s1.s with hp:=s1.s.hp.put b (some (.loop .busy none pe' ps' a' bd')) },b::s1.wr⟩ with
        | some (e,s2)=>match s2.s.hp.at b,s2.s.cg with
          | some (.loop .busy none pe' ps' a' bd'),[]=>
           let o:bR:=if e = .normal then .loop .ready none pe' ps' a' bd' else .loop .done (some e) pe' ps' a' bd'
           some (fW (.bool (decide (e = .normal))) h.length ⟨{ s2.s with hp:=s2.s.hp.put b (some o) },b::s2.wr⟩)
          | _,_=>none
        | none=>none
       | _=>none
     | _=>none
   | none=>none
  | _=>none
 | _=>none
def bw (ext:FuncId->List AV->ae->Option HR)(inv:eW)(FT:FuncId->Option cU):Nat->ao->au->Option (Ex×au)
 | 0,_,_=>none
 | n+1,c,s=>
  match c with
  | .skip=>some (.normal,s)
  | .seq a b=>match bw ext inv FT n a s with
    | some (.normal,s')=>bw ext inv FT n b s'
    | r=>r
  | .cond x a b=>match s.s.ah x with
    | some (.bool t)=>bw ext inv FT n (if t then a else b) s
    | _=>none
  | .block id c=>match bw ext inv FT n c s with
    | some (.exit id',s')=>if id'=id then some (.normal,s') else some (.exit id',s')
    | r=>r
  | .loop c=>match bw ext inv FT n c s with
    | some (.normal,s')=>bw ext inv FT n (.loop c) s'
    | r=>r
  | .exit id=>some (.exit id,s)
  | .ret=>some (.ret,s)
  | .region ops=>match fk (iq (bw ext inv FT n) ext FT) inv ops ⟨{ s.s with lo:=[] },s.wr⟩ with
    | some s'=>some (.normal,s')
    | none=>none
  | .draw ops=>match dS (iq (bw ext inv FT n) ext FT) inv ops ⟨{ s.s with lo:=[] },s.wr⟩ [] with
    | some s'=>some (.normal,s')
    | none=>none
  | .rangeFunc inner f ps a b=>
   if inner then none else
   match s.s.ah f with
   | some (.fn (.func g) fi ca)=>
    match gQ (bw ext inv FT n) FT g (fi++[.fn (.yield (s.s.hp.length+1)) [] []]++ca) (s.s.hp++[some .gA,some (.loop .ready none s.s.pe ps a b)]) with
    | some r=>match r.h.at (s.s.hp.length+1) with
      | some (.loop st pend pe' ps' a' b')=>
       if st = .busy then none else
       some (pend.getD .normal,⟨{ s.s with hp:=r.h.put (s.s.hp.length+1) (some (.loop .exhausted pend pe' ps' a' b')),cg:=s.s.hp.length::s.s.cg },(s.s.hp.length+1)::r.wr++s.wr⟩)
      | _=>none
    | none=>none
   | _=>none
  | .bad=>none
end Go.Ab
namespace Go.Ab
abbrev zm (a b:Nat):aY:=⟨.l a,.mv (.p b),none⟩
abbrev zw (a b:Nat):aY:=⟨.p a,.mv (.l b),none⟩
abbrev zn (a b:Nat):aY:=⟨.l a,.mv (.l b),none⟩
abbrev zi (a:Nat)(n:Int):aY:=⟨.p a,.mv (.c (.int .i64 n)),none⟩
abbrev z1 (a f x:Nat):aY:=⟨.l a,.call (.c (.fn (.func f) [] [])) [.l x],none⟩
abbrev z2 (a f x y:Nat):aY:=⟨.l a,.call (.c (.fn (.func f) [] [])) [.l x,.l y],none⟩
abbrev ze (a i x:Nat):aY:=⟨.l a,.extract i (.l x),none⟩
abbrev za (a k x y:Nat):aY:=⟨.l a,.eL none k (.l x) (.l y),none⟩
abbrev zd (a n x:Nat):aY:=⟨.l a,.load n false (.l x),none⟩
abbrev zt (a n x:Nat):aY:=⟨.l a,.load n true (.p x),none⟩
abbrev zT (a n x:Nat):aY:=⟨.l a,.load n true (.l x),none⟩
abbrev zs (n a x:Nat):aY:=⟨.no,.store n (.p a) (.l x),none⟩
abbrev zS (n a x:Nat):aY:=⟨.no,.store n (.l a) (.l x),none⟩
abbrev zf (a n x:Nat):aY:=⟨.l a,.tv n (.p x),none⟩
abbrev zl (a x:Nat):aY:=⟨.l a,.len .sl (.l x),none⟩
abbrev zL (a x:Nat):aY:=⟨.l a,.len .str (.l x),none⟩
abbrev zb (a:Nat)(o:BinOp)(x y:Nat):aY:=⟨.l a,.bin o (.l x) (.l y),none⟩
abbrev zc (a:Nat)(o:BinOp)(x:Nat)(n:Int):aY:=⟨.l a,.bin o (.l x) (.c (.int .i64 n)),none⟩
abbrev zq (a:Nat)(o:BinOp)(x:Nat)(n:Int):aY:=⟨.l a,.bin o (.p x) (.c (.int .i64 n)),none⟩
abbrev zr (a:Nat)(o:BinOp)(x y:Nat):aY:=⟨.l a,.bin o (.p x) (.p y),none⟩
abbrev zp (a c x:Nat):aY:=⟨.l a,.pick (.l c) (.l x) (.c (.bool false)),none⟩
abbrev zP (a c x:Nat):aY:=⟨.l a,.pick (.l c) (.c (.bool true)) (.l x),none⟩
abbrev zx (a e n x:Nat):aY:=⟨.p a,.box e n (.p x),none⟩
abbrev zu (a x:Nat):aY:=⟨.l a,.un .not (.l x),none⟩
theorem nca{α:Type}:(∀l:List α,[]++l=l) /\ ∀(a:α) (l m:List α),(a::l)++m=a::(l++m):=⟨List.nil_append,fun _ _ _=>List.cons_append⟩
abbrev kI (n:Int):aO:=.c (.int .i64 n)
abbrev kU (n:Int):aO:=.c (.int .u64 n)
abbrev kW (n:Int):aO:=.c (.int .u32 n)
abbrev AV.iV (n:Int):AV:=.int .i64 n
abbrev AV.uV (n:Int):AV:=.int .u64 n
abbrev zR (l:List aY)(c:ao):ao:=.seq (.region l) c
abbrev kF (f:Nat):aO:=.c (.fn (.func f) [] [])
abbrev zg (o:aY)(k:Nat)(b:Bool):aY:=⟨o.dst,o.op,some (.l k,b)⟩
abbrev zD0:List UInt8:=[0,1,2,2,3,3,3,3,4,4,4,4,4,4,4,4,5,5,5,5,5,5,5,5,5,5,5,5,5,5,5,5,6,6,6,6,6,6,6,6,6,6,6,6,6,6,6,6,6,6,6,6,6,6,6,6,6,6,6,6,6,6,6,6,7,7,7,7,7,7,7,7,7,7,7,7,7,7,7,7,7,7,7,7,7,7,7,7,7,7,7,7,7,7,7,7,7,7,7,7,7,7,7,7,7,7,7,7,7,7,7,7,7,7,7,7,7,7,7,7,7,7,7,7,7,7,7,7,8,8,8,8,8,8,8,8,8,8,8,8,8,8,8,8,8,8,8,8,8,8,8,8,8,8,8,8,8,8,8,8,8,8,8,8,8,8,8,8,8,8,8,8,8,8,8,8,8,8,8,8,8,8,8,8,8,8,8,8,8,8,8,8,8,8,8,8,8,8,8,8,8,8,8,8,8,8,8,8,8,8,8,8,8,8,8,8,8,8,8,8,8,8,8,8,8,8,8,8,8,8,8,8,8,8,8,8,8,8,8,8,8,8,8,8,8,8,8,8,8,8,8,8,8,8,8,8]
abbrev zD1:List UInt8:=[65,116,111,105]
abbrev zD2:List UInt8:=[48,49,50,51,52,53,54,55,56,57]
end Go.Ab
namespace Go.Ab
def oW (rec:Value->Option AV):List Value->Option (List AV)
 | []=>some []
 | v::r=>match rec v,oW rec r with
   | some a,some l=>some (a::l)
   | _,_=>none
def mS:Nat->Value->Option AV
 | 0,_=>none
 | n+1,v=>
  match v with
  | .bool b=>some (.bool b)
  | .int k m=>some (.int k m)
  | .string s=>some (.str s.data.toList)
  | .pointer none=>some .eK
  | .slice none 0 0=>some .ab
  | .map none=>some .eO
  | .nilFunc=>some .fH
  | .nilIface=>some .dN
  | .func (.func f) ⟨[]⟩ ⟨[]⟩=>some (.fn (.func f) [] [])
  | .agg ⟨cs⟩=>(oW (fun v=>mS n v) cs).map .agg
  | .tuple ⟨cs⟩=>(oW (fun v=>mS n v) cs).map .ay
  | _=>none
def idx (t:Nat):List Nat->Nat->Option Nat
 | [],_=>none
 | u::r,i=>if u=t then some i else idx t r (i+1)
structure Cx where
 P:Program
 gl:Nat->Option AV
 aP:List Nat
 N:Nat
def gB (C:Cx):Operand->Option aO
 | .tmp t=>match idx t C.aP 0 with
   | some i=>some (.p i)
   | none=>some (.l t)
 | .const v=>(mS 5 v).map .c
 | .func f=>some (.c (.fn (.func f) [] []))
 | .global g=>(C.gl g).map .c
def ir (C:Cx):List Operand->Option (List aO)
 | []=>some []
 | x::xs=>match gB C x,ir C xs with
   | some a,some l=>some (a::l)
   | _,_=>none
def lF (C:Cx):Option Operand->Option (Option aO)
 | none=>some none
 | some x=>(gB C x).map some
def yJ:TypeDesc->Bool
 | .struct _ | .array _ _=>true
 | _=>false
def shapeOf (P:Program)(t:TypeId):Option (Nat×Bool):=
 match P.info? t,P.underlying t with
 | some i,some d=>some (i.size,yJ d)
 | _,_=>none
def zeroOf (P:Program)(t:TypeId):Option AV:=
 match P.info? t with
 | some i=>match i.zero with
   | some v=>mS 5 v
   | none=>none
 | none=>none
def qO (P:Program)(rec:TypeId->Option gK):List Field->Option (List (Nat×Nat×Bool×gK))
 | []=>some []
 | f::r=>match qO P rec r with
   | some l => if f.name == "_" then some l else
     match shapeOf P f.type,rec f.type with
     | some (n,ag),some e=>some ((f.offset,n,ag,e)::l)
     | _,_=>none
   | none=>none
def qP (sz:Nat)(ag:Bool)(q:gK):Nat->Nat->List (Nat×Nat×Bool×gK)
 | 0,_=>[]
 | n+1,i=>(i*sz,sz,ag,q)::qP sz ag q n (i+1)
def iu (P:Program):Nat->Bool->TypeId->Option gK
 | 0,_,_=>none
 | d+1,g,t=>
  match P.underlying t with
  | some .bool=>some .bool
  | some (.int _)=>some .int
  | some .string=>some .str
  | some (.pointer _)=>some (.ref .ptr)
  | some (.slice _)=>some (.ref .slice)
  | some (.map _ _)=>some (.ref .map)
  | some (.func _ _ _)=>some (.ref .func)
  | some (.interface ms)=>some (.iface (g && !ms.isEmpty))
  | some (.struct fs)=>if P.stoodInHeld t then none else (qO P (fun t=>iu P d true t) fs.toList).map .lv
  | some (.array n e)=>match shapeOf P e,iu P d true e with
    | some (sz,ag),some q=>some (.lv (qP sz ag q n 0))
    | _,_=>none
  | _=>none
def kE:Operand->Bool
 | .const _=>true
 | _=>false
def kc (C:Cx)(place:Nat->Option (Nat×Nat)):List (Nat×Operand)->Option (List (Nat×Nat×aO))
 | []=>some []
 | (i,x)::r=>match place i,gB C x,kc C place r with
   | some (o,n),some a,some l=>some ((o,n,a)::l)
   | _,_,_=>none
def oZ (P:Program):List Field->Option (List (Nat×Nat))
 | []=>some []
 | f::r=>match P.info? f.type,oZ P r with
   | some i,some l=>some ((f.offset,i.size)::l)
   | _,_=>none
def iU (P:Program)(t:TypeId):Option (TypeId×Nat×Nat):=
 match P.underlying t with
 | some (.slice e)=>match P.info? e with
   | some i=>some (e,i.size,i.bytes)
   | none=>none
 | _=>none
def keyOf (P:Program)(t:TypeId):Option iF:=
 match P.underlying t with
 | some (.int _)=>some .int
 | some .string=>some .str
 | _=>none
def qQ:BinOp->Bool
 | .eql | .neq=>true
 | _=>false
def tC (P:Program)(t:TypeId):Bool:=
 match P.underlying t with
 | some (.int _)|some .string=>true
 | _=>false
def tD (P:Program)(e:TypeId)(n:Nat):Bool:=
 match (zeroOf P e).bind AV.cells with
 | some z=>z.length == n
 | none=>false
def yK (P:Program)(t:TypeId):Bool:=
 match P.underlying t with
 | some (.struct _)|some (.array _ _)=>P.eqGuardType P.depth t
 | _=>false
def NP:Fn->Bool
 | .yield _=>true
 | _=>false
def jl (P:Program)(e:TypeId):Bool:=
 match P.info? e with
 | some i=>match i.desc with
   | .named n _ => n == "strings.Builder"
   | _=>false
 | none=>false
def yL (P:Program)(t:TypeId):Bool:=
 match P.underlying t with
 | some (.pointer e)=>jl P e
 | _=>false
def iW (C:Cx)(o:Oper):Option bm:=
 let P:=C.P
 let d:=gB C
 match o.op with
 | .move x | .assign x=>(d x).map .mv
 | .pick c a b=>match d c,d a,d b with
   | some c,some a,some b=>some (.pick c a b)
   | _,_,_=>none
 | .alloc e=>match zeroOf P e with
   | some z=>z.cells.map (.alloc e)
   | none=>none
 | .box e x=>match shapeOf P e,d x with
   | some (n,_),some x=>some (.box e n x)
   | _,_=>none
 | .build t ps=>match zeroOf P t with
   | some z=>match z.cells,P.underlying t with
     | some zc,some (.struct fs)=>match oZ P fs.toList with
       | some pl=>(kc C (pl[·]?) ps.toList).map (.build zc)
       | none=>none
     | some zc,some (.array _ e)=>match P.info? e with
       | some i=>(kc C (fun j=>some (j*i.size,i.size)) ps.toList).map (.build zc)
       | none=>none
     | _,_=>none
   | none=>none
 | .buildSlice t len ps=>match iU P t with
   | some (e,n,_)=>match (zeroOf P e).bind AV.cells,kc C (fun j=>some (j*n,n)) ps.toList with
     | some z,some l=>if len*n<=2^24/\z.length=n/\0<n then some (.dX e len n z l) else none
     | _,_=>none
   | none=>none
 | .load t a=>match shapeOf P t,d a with
   | some (n,ag),some a=>some (.load n ag a)
   | _,_=>none
 | .store t a x=>match shapeOf P t,d a,d x with
   | some (n,_),some a,some x=>some (.store n a x)
   | _,_,_=>none
 | .nilCheck x=>(d x).map .tu
 | .binOp op t x y _=>match d x,d y with
   | some a,some b=>
    if qQ op && !tC P t then
     if yL P t && !(kE x || kE y) then some (.qG (op == .neq) a b) else
     if yK P t then none else
     (iu P 20 (!(kE x || kE y)) t).map fun e=>.eq (op == .neq) e a b
    else some (.bin op a b)
   | _,_=>none
 | .unOp op _ x=>(d x).map (.un op)
 | .convert src dst x=>match P.underlying src,P.underlying dst,d x with
   | some (.int _),some (.int k),some a=>some (.gW k a)
   | some (.int _),some .string,some a=>some (.yC a)
   | some .string,some .string,some a=>some (.yD a)
   | some .string,some (.slice e),some a=>match P.underlying e with
     | some (.int .u8)=>if jl P e then none else some (.oH e a)
     | _=>none
   | some (.slice e),some .string,some a=>match P.underlying e with
     | some (.int .u8)=>some (.qF a)
     | _=>none
   | some (.pointer t),some .unsafePointer,some a=>match P.info? t with
     | some i=>if i.size=0 then none else some (.oI none a)
     | none=>none
   | some .unsafePointer,some (.pointer u),some a=>match P.info? u with
     | some _=>if jl P u && liesAt P P.depth u (P.cellsOf u/P.cellsOf u) 0 u 1 then some (.oI (some (u,P.cellsOf u)) a) else none
     | none=>none
   | _,_,_=>none
 | .makeInterface t x=>match P.underlying t with
   | some (.interface _)=>none
   | some _=>(d x).map (.qJ t)
   | none=>none
 | .typeAssert x _ t ok=>match P.underlying t with
   | some (.interface _)=>none
   | some _=>match d x,zeroOf P t with
     | some x,some z=>some (.yG t z ok x)
     | _,_=>none
   | none=>none
 | .makeFunc f fi ca=>if NP f then none else match ir C fi.toList,ir C ca.toList with
   | some a,some b=>some (.tw f a b)
   | _,_=>none
 | .makeMap _ none=>some .mP
 | .makeSlice t l c=>match iU P t,d l,d c with
   | some (e,n,by'),some l,some c=>match (zeroOf P e).bind AV.cells with
     | some z=>if z.length=n/\0<n then some (.gM e n by' z l c) else none
     | none=>none
   | _,_,_=>none
 | .slice t x lo hi mx=>match P.underlying t,d x,lF C lo,lF C hi,lF C mx with
   | some .string,some x,some l,some h,some none=>some (.slice .str 1 x l h none)
   | some (.slice e),some x,some l,some h,some m=>match P.info? e with
     | some i=>some (.slice .sl i.size x l h m)
     | none=>none
   | some (.array n e),some x,some l,some h,some none=>match P.info? e with
     | some i=>some (.oJ n i.size x l h)
     | none=>none
   | _,_,_,_,_=>none
 | .fieldAddr t x f=>match P.underlying t,d x with
   | some (.struct fs),some x=>match fs[f]? with
     | some f=>match P.info? f.type with
       | some i=>if i.size=0 then none else some (.tv f.offset x)
       | none=>none
     | none=>none
   | _,_=>none
 | .field t x f=>match P.underlying t,d x with
   | some (.struct fs),some x=>match fs[f]? with
     | some f=>match shapeOf P f.type with
       | some (n,ag)=>some (.field f.offset n ag x)
       | none=>none
     | none=>none
   | _,_=>none
 | .indexAddr t x i=>match P.underlying t,d x,d i with
   | some (.array n e),some x,some i=>match P.info? e with
     | some inf=>some (.eL (some n) inf.size x i)
     | none=>none
   | some (.slice e),some x,some i=>match P.info? e with
     | some inf=>some (.eL none inf.size x i)
     | none=>none
   | _,_,_=>none
 | .index t x i=>match P.underlying t,d x,d i with
   | some .string,some x,some i=>some (.index x i)
   | some (.array n e),some x,some i=>match shapeOf P e with
     | some (sz,ag)=>some (.yF n sz ag x i)
     | none=>none
   | _,_,_=>none
 | .lookup t x i ok=>match P.underlying t,d x,d i with
   | some (.map k e),some x,some i=>match keyOf P k,zeroOf P e with
     | some k,some z=>some (.lookup k z x i ok)
     | _,_=>none
   | _,_,_=>none
 | .mapUpdate t m i x | .insert t m i x=>match P.underlying t,d m,d i,d x with
   | some (.map k _),some m,some i,some x=>(keyOf P k).map fun k=>.qK k m i x
   | _,_,_,_=>none
 | .range t x=>match P.underlying t,d x with
   | some .string,some x=>some (.range x)
   | _,_=>none
 | .next x true=>(d x).map .next
 | .extract x i=>(d x).map (.extract i)
 | .call c=>match c.callee with
   | .value f=>match d f,ir C c.args.toList with
     | some f,some as=>some (.call f as)
     | _,_=>none
   | .invoke r name=>match d r,ir C c.args.toList with
     | some r,some as=>some (.invoke r name as)
     | _,_=>none
   | .builtin b=>match b,c.argTypes.toList,ir C c.args.toList with
     | .len,[t],some [x]=>match P.underlying t with
       | some (.array n _)=>some (.len (.arr n) x)
       | some (.map _ _)=>some (.qL x)
       | some .string=>some (.len .str x)
       | some (.slice _)=>some (.len .sl x)
       | _=>none
     | .cap,[t],some [x]=>match P.underlying t with
       | some (.slice _)=>some (.cap x)
       | _=>none
     | .append,[t,u],some [x,y]=>match iU P t,P.underlying u with
       | some (e,n,by'),some .string=>if n=1/\tD P e n=true/\jl P e=false then some (.append e n by' x y) else none
       | some (e,n,by'),some (.slice _)=>if 0<n/\tD P e n=true/\jl P e=false then some (.append e n by' x y) else none
       | _,_=>none
     | .copy,[t,_],some [x,y]=>match iU P t with
       | some (_,n,_)=>if 0<n then some (.copy n x y) else none
       | none=>none
     | .clear,[t],some [x]=>match iU P t with
       | some (e,n,_)=>match (zeroOf P e).bind AV.cells with
         | some z=>if z.length=n/\0<n then some (.qI n z x) else none
         | none=>none
       | none=>none
     | .unsafeSliceData,[t],some [x]=>match P.underlying t with
       | some (.slice _)=>some (.yE x)
       | _=>none
     | .unsafeString,[t,_],some [x,n]=>match P.underlying t with
       | some (.pointer e)=>if P.cellsOf e=1 then some (.qH e x n) else none
       | _=>none
     | .max,_,some xs=>some (.mm true xs)
     | .min,_,some xs=>some (.mm false xs)
     | _,_,_=>none
 | _=>none
def kd (C:Cx):Option Tmp->Option fj
 | none=>some .no
 | some t=>if t<C.N then
     match idx t C.aP 0 with
     | some i=>some (.p i)
     | none=>some (.l t)
   else none
def tE (C:Cx)(ops:List Oper):Option (Nat×Bool)->Option (Option (aO×Bool))
 | none=>some none
 | some (j,w)=>match ops[j]? with
   | some o=>match o.dst with
     | some t=>(gB C (.tmp t)).map fun x=>some (x,w)
     | none=>none
   | none=>none
def tF (C:Cx)(ops:List Oper)(o:Oper):Option aY:=
 match kd C o.dst,iW C o,tE C ops o.guard with
 | some d,some op,some g=>some ⟨d,op,g⟩
 | _,_,_=>none
def jE (C:Cx)(ops:List Oper):List Oper->Option (List aY)
 | []=>some []
 | o::r=>match tF C ops o,jE C ops r with
   | some a,some l=>some (a::l)
   | _,_=>none
def NQ (ops:List Oper):List Nat:=
 ops.foldl (fun acc o=>acc++[o.after.toList.foldl (fun s e=>if Region.binds .any e then s ||| 2^e.on ||| acc.getD e.on 0 else s) 0]) []
def jm (bits i:Nat):List Nat:=(List.range i).filter fun j=>!bits.testBit j
def pa (ops:List Oper)(bits:List Nat):Bool:=
 ops.zipIdx.all fun (o,i)=>
  o.after.toList.all (fun e=>!Region.binds .any e || decide (e.on<i)) &&
  (List.range i).all fun j=>!(bits.getD i 0).testBit j || o.after.toList.any fun e=>Region.binds .any e && (e.on == j || (decide (j<e.on) && (bits.getD e.on 0).testBit j))
def pb (l:List aY)(bits:List Nat):Bool:=
 l.zipIdx.all fun (o,i)=>(jm (bits.getD i 0) i).all fun j=>match l[j]? with|some oj=>oO oj o|none=>false
def tG (C:Cx)(ops:List Oper)(draw:Bool):Option ao:=
 match jE C ops ops with
 | none=>none
 | some l=>
  if draw then
   let bits:=NQ ops
   if pa ops bits && pb l bits then some (.draw (l.zipIdx.map fun (o,i)=>(o,jm (bits.getD i 0) i))) else none
  else some (.region l)
def lG (C:Cx):List Tmp->Option (List fj)
 | []=>some []
 | t::r=>match kd C (some t),lG C r with
   | some d,some l=>some (d::l)
   | _,_=>none
def fI (C:Cx)(rd:Bool):Code->Option ao
 | .skip=>some .skip
 | .region _ ops draw=>some ((tG C ops.toList draw).getD .bad)
 | .seq a b=>match fI C rd a,fI C rd b with
   | some a,some b=>some (.seq a b)
   | _,_=>none
 | .cond c a b=>match gB C c,fI C rd a,fI C rd b with
   | some c,some a,some b=>some (.cond c a b)
   | _,_,_=>none
 | .block id c=>(fI C rd c).map (.block id)
 | .loop c=>(fI C rd c).map .loop
 | .exit id=>some (.exit id)
 | .ret=>some .ret
 | .scope c=>(fI C rd c).map fun c=>.seq c .skip
 | .label _=>some .skip
 | .rangeFunc f ps a b=>match gB C f,lG C ps.toList,fI C true a,fI C true b with
   | some f,some ps,some a,some b=>some (.rangeFunc rd f ps a b)
   | _,_,_,_=>none
 | _=>some .bad
def kG (C:Cx):List ResultVar->Option (List fw)
 | []=>some []
 | .tmp t::r=>match gB C (.tmp t),kG C r with
   | some x,some l=>some (.var x::l)
   | _,_=>none
 | .cell t ty::r=>match gB C (.tmp t),shapeOf C.P ty,kG C r with
   | some x,some (n,ag),some l=>some (.cell n ag x::l)
   | _,_,_=>none
def tH (P:Program)(gl:Nat->Option AV)(aP:List Nat)(f:Func):Option cU:=
 let C:Cx:=⟨P,gl,aP,f.ntmps⟩
 match f.body with
 | none=>none
 | some c=>
  match fI C false c,kG C f.results.toList with
  | some b,some r=>if aP.all (· < f.ntmps) && decide aP.Nodup then some ⟨f.ntmps,aP,r,b⟩ else none
  | _,_=>none
def fl (P:Program)(t:TypeId)(name:String):Option FuncId:=
 match P.info? t,P.underlying t with
 | some i,some u=>match i.methods.toList.find? (·.name == name) with
   | some m=>match m.func,m.path.toList with
     | some (f,ptr),[]=>match u,ptr with
       | .pointer _,true=>some f
       | .pointer _,false=>none
       | _,false=>some f
       | _,true=>none
     | _,_=>none
   | none=>none
 | _,_=>none
end Go.Ab
namespace Go.Ab
def FG (P:Program)(gl:Nat->Option AV)(aP:List (List Nat))(f:FuncId):Option cU:=
 match P.funcs[f]?,aP[f]? with
 | some fn,some p=>tH P gl p fn
 | _,_=>none
end Go.Ab
namespace Go.Ab
variable {w w':World} {x:AV} {l:List AV} {y v:Value} {m:List Value} {h h':ae} {a:Addr} {n:Nat}
inductive BS where
 | fresh|dead|nil|live (c d:Nat)
structure aM where
 at':Nat->BS
 X:Nat->Prop
instance:CoeFun aM (fun _=>Nat->BS):=⟨aM.at'⟩
def da (ρ:aM)(c:Nat):Prop:=(∀b d,ρ b≠.live c d)/\¬ρ.X c
inductive V (ρ:aM) (w:World):AV->Value->Prop
 | dj (v:Value):V ρ w .dj v
 | bool (b:Bool):V ρ w (.bool b) (.bool b)
 | int (k:IntKind) (n:Int):V ρ w (.int k n) (.int k n)
 | str (s:List UInt8):V ρ w (.str s) (.string ⟨s.toArray⟩)
 | eK:V ρ w .eK (.pointer none)
 | ptr {b c d:Nat} (o:Nat) (h:ρ b = .live c d):V ρ w (.ptr b o) (.pointer (some ⟨c,o+d,none⟩))
 | eM {b:Nat} (o c o':Nat) (h:ρ b = .dead):V ρ w (.ptr b o) (.pointer (some ⟨c,o',none⟩))
 | vp {l:List AV} (c o:Nat) (g:Nat->Value) (hf:l≠[]->da ρ c) (hc:∀i:Nat,i<l.length->w.cell? ⟨c,o+i,none⟩=some (g i))
     (hg:∀(i:Nat) x,l[i]? = some x->V ρ w x (g i)):V ρ w (.vp l) (.pointer (some ⟨c,o,none⟩))
 | ab:V ρ w .ab (.slice none 0 0)
 | sl {b c d o len esz capC:Nat} {cap:Option Nat} (h:ρ b = .live c d) (hl:len<=capC) (hcap:∀n,cap=some n->capC=n)
     (hb:∃cs e fr,w.heap[c]? = some (.cells cs e fr)/\o+d+capC*esz<=cs.size):V ρ w (.sl b o len esz cap) (.slice (some ⟨c,o+d,none⟩) len capC)
 | fX {b esz:Nat} (h:ρ b = .nil):V ρ w (.sl b 0 0 esz none) (.slice none 0 0)
 | fm {b o len esz capC:Nat} {cap:Option Nat} (c o':Nat) (h:ρ b = .dead) (hl:len<=capC) (hcap:∀n,cap=some n->capC=n):V ρ w (.sl b o len esz cap) (.slice (some ⟨c,o',none⟩) len capC)
 | fJ {b esz:Nat} (h:ρ b = .dead):V ρ w (.sl b 0 0 esz none) (.slice none 0 0)
 | fY {b esz:Nat} (a:Addr) (h:ρ b = .dead):V ρ w (.sl b 0 0 esz (some 0)) (.slice (some a) 0 0)
 | vs {l:List AV} {len capC:Nat} {cap:Option Nat} (c o:Nat) (g:Nat->Value) (hf:l≠[]->da ρ c) (hl:len<=capC) (hcap:∀n,cap=some n->capC=n)
     (hc:∀i:Nat,i<l.length->w.cell? ⟨c,o+i,none⟩=some (g i)) (hg:∀(i:Nat) x,l[i]? = some x->V ρ w x (g i)):V ρ w (.vs l len cap) (.slice (some ⟨c,o,none⟩) len capC)
 | fa {cap:Option Nat} (hcap:∀n,cap=some n->n=0):V ρ w (.vs [] 0 cap) (.slice none 0 0)
 | fK {cap:Option Nat} (a:Addr) (hcap:∀n,cap=some n->n=0):V ρ w (.vs [] 0 cap) (.slice (some a) 0 0)
 | eO:V ρ w .eO (.map none)
 | map {b c:Nat} (h:ρ b = .live c 0):V ρ w (.map b) (.map (some c))
 | iw {b:Nat} (c:Nat) (h:ρ b = .dead):V ρ w (.map b) (.map (some c))
 | yield {b c d:Nat} (h:ρ b = .live c d):V ρ w (.fn (.yield b) [] []) (.func (.yield c) #[] #[])
 | fn {f:Fn} {fi ca:List AV} {fi' ca':List Value} (hf:∀l,f≠.yield l) (h1:fi.length=fi'.length) (h2:ca.length=ca'.length)
     (g1:∀(i:Nat) x y,fi[i]? = some x->fi'[i]? = some y->V ρ w x y) (g2:∀(i:Nat) x y,ca[i]? = some x->ca'[i]? = some y->V ρ w x y):V ρ w (.fn f fi ca) (.func f fi'.toArray ca'.toArray)
 | gY {b:Nat} (c:Nat) (h:ρ b = .dead):V ρ w (.fn (.yield b) [] []) (.func (.yield c) #[] #[])
 | fH:V ρ w .fH .nilFunc
 | iface {t:TypeId} {x:AV} {y:Value} (h:V ρ w x y):V ρ w (.iface t x) (.iface t y)
 | dN:V ρ w .dN .nilIface
 | agg {l:List AV} {m:List Value} (h:l.length=m.length) (g:∀(i:Nat) x y,l[i]? = some x->m[i]? = some y->V ρ w x y):V ρ w (.agg l) (.agg m.toArray)
 | ay {l:List AV} {m:List Value} (h:l.length=m.length) (g:∀(i:Nat) x y,l[i]? = some x->m[i]? = some y->V ρ w x y):V ρ w (.ay l) (.tuple m.toArray)
def VL (ρ:aM)(w:World)(l:List AV)(m:List Value):Prop:=
 l.length=m.length/\∀(i:Nat) x y,l[i]? = some x->m[i]? = some y->V ρ w x y
theorem V.yM {ρ:aM}(s:ByteArray):V ρ w (.str s.data.toList) (.string s):=by
 have:=V.str (ρ:=ρ) (w:=w) s.data.toList;omega
theorem VL.nil {ρ:aM}:VL ρ w [] []:=⟨rfl,aq⟩
theorem VL.cons {ρ:aM}(h:V ρ w x y)(h':VL ρ w l m):VL ρ w (x::l) (y::m):=by
 refine⟨by simp[h'.1],fun i a b ha hb=>?_⟩;cases i with
 | zero=>grind
 | succ i=>simp at ha hb;exact h'.2 i a b ha hb
theorem VL.head {ρ:aM}(h:VL ρ w (x::l) (y::m)):V ρ w x y:=h.2 0 x y rfl rfl
theorem VL.tail {ρ:aM}(h:VL ρ w (x::l) (y::m)):VL ρ w l m:=
 ⟨by simpa using h.1,fun i a b ha hb=>h.2 (i+1) a b aw aw⟩
theorem VL.cons_inv {ρ:aM}(h:VL ρ w (x::l) m):∃y m',m=y::m'/\V ρ w x y/\VL ρ w l m':=by
 cases m with
 | nil=>exact absurd h.1 aq
 | cons y m'=>exact⟨y,m',rfl,h.head,h.tail⟩
theorem VL.jF {ρ:aM}(h:VL ρ w [] m):m=[]:=by
 have:=h.1<;>grind
theorem VL.append {ρ:aM}:∀{l l':List AV} {m m':List Value},VL ρ w l m->VL ρ w l' m'->VL ρ w (l++l') (m++m')
 | [],_,_,_,h,h'=>by rw[h.jF];exact h'
 | _::_,_,_,_,h,h'=>by
  obtain⟨y,m1,rfl,hv,hl⟩:=h.cons_inv;exact .cons hv (hl.append h')
theorem VL.drop {ρ:aM}(h:VL ρ w l m)(n:Nat):VL ρ w (l.drop n) (m.drop n):=
 ⟨by simp[h.1],fun i a b ha hb=>h.2 (n+i) a b aw aw⟩
theorem VL.take {ρ:aM}(h:VL ρ w l m)(n:Nat):VL ρ w (l.take n) (m.take n):=
 ⟨by simp[h.1],fun i a b ha hb=>by
  rw[cV]at ha hb;split at ha
  . rename_i hlt;rw[if_pos hlt]at hb;exact h.2 i a b ha hb
  grind⟩
structure ER (C:Cx)(ρ:aM)(w:World)(pe:List AV)(lo:List (Nat×AV))(tmps:Array Value):Prop where
 size:tmps.size=C.N
 nodup:C.aP.Nodup
 lt:∀t∈C.aP,t<C.N
 ke:pe.length=C.aP.length
 pe:∀(i:Nat) v t,pe[i]? = some v->C.aP[i]? = some t->V ρ w v (tmps.getD t undef)
 lo:∀t v,lo.lookup t=some v->t<C.N/\t∉C.aP/\V ρ w v (tmps.getD t undef)
def mT:Option Ex->Option Code->Prop
 | none,none=>True
 | some .ret,some .ret=>True
 | some (.exit i),some (.exit j)=>i=j
 | _,_=>False
def Fits (P:Program)(e:TypeId)(d n s:Nat):Prop:=d+n<=s/\(jl P e=true->d=0/\n=s)
def BR (P:Program)(gl:Nat->Option AV)(ρ:aM)(w:World)(b:Nat):bR->Prop
 | .cells l e=>(∃c d cs fr,ρ b = .live c d/\w.heap[c]? = some (.cells cs e fr)/\Fits P e d l.length cs.size/\(∀i,i<cs.size->w.frozen? ⟨c,i,none⟩=false) /\
     ∀(i:Nat) x y,l[i]? = some x->cs[i+d]? = some y->V ρ w x y)\/(ρ b = .nil/\l=[])
 | .map es=>∃c ms clk,ρ b = .live c 0/\w.heap[c]? = some (.map ms clk)/\es.length=ms.size /\
     ∀(i:Nat) kx vx m,es[i]? = some (kx,vx)->ms[i]? = some m->V ρ w kx m.key/\V ρ w vx m.val
 | .iter s pos=>∃c,ρ b = .live c 0/\w.heap[c]? = some (.stringIter ⟨s.toArray⟩ pos)
 | .gA=>∃c,ρ b = .live c 0/\w.heap[c]? = some (.deferred (some []))
 | .hole=>ρ b = .fresh
 | .loop st pend pe ps a bd=>∃c r aP N,ρ b = .live c 0/\w.heap[c]? = some (.loop r)/\r.state=st/\mT pend r.pending /\
     ER ⟨P,gl,aP,N⟩ ρ w pe [] r.tmps/\lG ⟨P,gl,aP,N⟩ r.params.toList=some ps/\fI ⟨P,gl,aP,N⟩ true r.assign=some a/\fI ⟨P,gl,aP,N⟩ true r.body=some bd
structure Mem (P:Program)(gl:Nat->Option AV)(ρ:aM)(h:ae)(w:World):Prop where
 dm:∀b o,h[b]? = some (some o)->BR P gl ρ w b o
 fresh:∀b,h.length<=b->ρ b = .fresh
 inj:∀b b' c d d',ρ b = .live c d->ρ b' = .live c d'->b=b'
 bound:∀b c d,ρ b = .live c d->c<w.heap.size
 xb:∀c,ρ.X c->c<w.heap.size
 xo:∀b c d,ρ b = .live c d->¬ρ.X c
 gl:∀g v,gl g=some v->V ρ w v (.pointer (some ⟨g,0,none⟩))
structure Ext (h h':ae)(ρ ρ':aM)(w w':World):Prop where
 os:w'.os=w.os
 tape:w'.tape=w.tape
 output:w'.output=w.output
 size:w.heap.size<=w'.heap.size
 len:h.length<=h'.length
 X:ρ'.X=ρ.X
 dj:∀b:Nat,h[b]? = some none->h'[b]? = some none
 same:∀b:Nat,h[b]? = some none->ρ' b=ρ b
 live:∀b c d,ρ b = .live c d->ρ' b = .live c d\/ρ' b = .dead
 dead:∀b,ρ b = .dead->ρ' b = .dead
 nil:∀b,ρ b = .nil->ρ' b = .nil\/ρ' b = .dead
 cT:∀c,c<w.heap.size->(∀b d,ρ b = .live c d->h[b]? = some none)->w'.heap[c]? = w.heap[c]?
 back:∀b c d,ρ' b = .live c d->c<w.heap.size->ρ b = .live c d\/∃b0 d0,ρ b0 = .live c d0/\h[b0]? ≠ some none
 shape:∀(c:Nat) cs e fr,w.heap[c]? = some (.cells cs e fr)->∃cs' fr',w'.heap[c]? = some (.cells cs' e fr')/\cs'.size=cs.size
theorem Ext.refl (h:ae)(ρ:aM)(w:World):Ext h h ρ ρ w w:=
 ⟨rfl,rfl,rfl,bj _,bj _,rfl,fun _ h=>h,fun _ _=>rfl,aw,fun _ h=>h,aw,aq,aw,
  aw⟩
theorem Ext.trans {h1 h2:ae}{ρ ρ1 ρ2:aM}{w1 w2:World}(x:Ext h h1 ρ ρ1 w w1)(y:Ext h1 h2 ρ1 ρ2 w1 w2):Ext h h2 ρ ρ2 w w2 where
 os:=y.os.trans x.os
 tape:=y.tape.trans x.tape
 output:=y.output.trans x.output
 size:=iK x.size y.size
 len:=iK x.len y.len
 X:=y.X.trans x.X
 dj b hb:=y.dj b (x.dj b hb)
 same b hb:=(y.same b (x.dj b hb)).trans (x.same b hb)
 live b c d hb:=by
  rcases x.live b c d hb with h|h
  . exact y.live b c d h
  . exact .inr (y.dead b h)
 dead b hb:=y.dead b (x.dead b hb)
 nil b hb:=by
  rcases x.nil b hb with h|h
  . exact y.nil b h
  . exact .inr (y.dead b h)
 cT c hc hb:=by
  rw[y.cT c (d9 hc x.size) ?_,x.cT c hc hb];intro b d h1;rcases x.back b c d h1 hc with h|⟨b0,d0,h,hn⟩
  . exact x.dj b (hb b d h)
  grind
 back b c d h2 hc:=by
  rcases y.back b c d h2 (d9 hc x.size) with h1|⟨b1,d1,h1,hn1⟩
  . exact x.back b c d h1 hc
  . rcases x.back b1 c d1 h1 hc with h0|h0
    . exact .inr ⟨b1,d1,h0,fun hu=>hn1 (x.dj b1 hu)⟩
    grind
 shape c cs e fr h0:=by
  obtain⟨cs1,fr1,h1,e1⟩:=x.shape c cs e fr h0;obtain⟨cs2,fr2,h2,e2⟩:=y.shape c cs1 e fr1 h1<;>grind
theorem NR (h:w.cell? a=some v):∃cs e fr,w.heap[a.block]? = some (.cells cs e fr):=by
 unfold f6 at h;grind
theorem yN (h:w.cell? a=some v):a.block<w.heap.size:=by
 grind[NR]
theorem NS (h:w'.heap[a.block]? = w.heap[a.block]?):w'.cell? a=w.cell? a:=by
 unfold f6;rw[h]
theorem Ext.free {ρ ρ':aM}(x:Ext h h' ρ ρ' w w'){c:Nat}(hc:c<w.heap.size)(hf:da ρ c):da ρ' c:=by
 refine⟨fun b d hb=>?_,by rw[x.X];exact hf.2⟩;rcases x.back b c d hb hc with h|⟨b0,d0,h,_⟩
 . exact hf.1 _ _ h
 . exact hf.1 _ _ h
theorem Ext.cell {ρ ρ':aM}(x:Ext h h' ρ ρ' w w'){c o:Nat}{v:Value}(hf:da ρ c)(hc:w.cell? ⟨c,o,none⟩=some v):w'.cell? ⟨c,o,none⟩=some v:=by
 have hlt:=yN hc;rw[NS (w:=w)]
 . exact hc
 . exact x.cT c hlt (fun b d hb=>absurd hb (hf.1 b d))
theorem V.mono {ρ ρ':aM}(x:Ext h h' ρ ρ' w w'){a:AV}{v:Value}(hv:V ρ w a v):V ρ' w' a v:=by
 induction hv with
 | dj v=>exact .dj v
 | bool b=>exact .bool b
 | int k n=>exact .int k n
 | str s=>exact .str s
 | eK=>exact .eK
 | ptr o hb=>
               rcases x.live _ _ _ hb with h|h
               . exact .ptr o h
               . exact .eM o _ _ h
 | eM o c o' hb=>exact .eM o c o' (x.dead _ hb)
 | @vp l c o g hf hc _ ih=>
  by_cases hl:l=[]
  . subst hl;exact .vp c o g aq aq aq
  . have h0:=hc 0 aw;exact .vp c o g (fun _=>x.free (yN h0) (hf hl)) (fun i hi=>x.cell (hf hl) (hc i hi)) ih
 | ab=>exact .ab
 | sl hb hl hcap hs=>
  obtain⟨cs,e,fr,h1,h2⟩:=hs;obtain⟨cs',fr',h3,h4⟩:=x.shape _ _ _ _ h1;rcases x.live _ _ _ hb with h|h
  . exact .sl h hl hcap ⟨cs',e,fr',h3,ac⟩
  . exact .fm _ _ h hl hcap
 | fX hb=>
             rcases x.nil _ hb with h|h
             . exact .fX h
             . exact .fJ h
 | fm c o' hb hl hcap=>exact .fm c o' (x.dead _ hb) hl hcap
 | fJ hb=>exact .fJ (x.dead _ hb)
 | fY a hb=>exact .fY a (x.dead _ hb)
 | @vs l len capC cap c o g hf hl hcap hc _ ih=>
  by_cases hn:l=[]
  . subst hn;exact .vs c o g aq hl hcap aq aq
  . have h0:=hc 0 aw;exact .vs c o g (fun _=>x.free (yN h0) (hf hn)) hl hcap (fun i hi=>x.cell (hf hn) (hc i hi)) ih
 | fa hcap=>exact .fa hcap
 | fK a hcap=>exact .fK a hcap
 | eO=>exact .eO
 | map hb=>
             rcases x.live _ _ _ hb with h|h
             . exact .map h
             . exact .iw _ h
 | iw v hb=>exact .iw v (x.dead _ hb)
 | yield hb=>
               rcases x.live _ _ _ hb with h|h
               . exact .yield h
               . exact .gY _ h
 | fn hf h1 h2 _ _ ih1 ih2=>exact .fn hf h1 h2 ih1 ih2
 | gY v hb=>exact .gY v (x.dead _ hb)
 | fH=>exact .fH
 | iface _ ih=>exact .iface ih
 | dN=>exact .dN
 | agg h _ ih=>exact .agg h ih
 | ay h _ ih=>exact .ay h ih
theorem VL.mono {ρ ρ':aM}(x:Ext h h' ρ ρ' w w'){l:List AV}{m:List Value}(hv:VL ρ w l m):VL ρ' w' l m:=
 ⟨hv.1,fun i a b ha hb=>(hv.2 i a b ha hb).mono x⟩
theorem ER.mono {C:Cx}{ρ ρ':aM}(x:Ext h h' ρ ρ' w w'){pe:List AV}{lo:List (Nat×AV)}{t:Array Value}(e:ER C ρ w pe lo t):ER C ρ' w' pe lo t:=
 ⟨e.size,e.nodup,e.lt,e.ke,fun i v t h1 h2=>(e.pe i v t h1 h2).mono x,fun t v h1=>let ⟨a,b,c⟩:=e.lo t v h1;⟨a,b,c.mono x⟩⟩
def iX (n:Nat)(ρ:aM):aM:=⟨fun b=>if b<n then ρ b else .fresh,ρ.X⟩
theorem da.cut {ρ:aM}{c:Nat}(n:Nat)(h:da ρ c):da (iX n ρ) c:=by
 refine⟨fun b d hb=>?_,h.2⟩;simp only[iX]at hb;split at hb
 . exact h.1 b d hb
 grind
theorem fx (h:bz l<=n):∀(i:Nat) x,l[i]? = some x->x.top<=n:=by
 induction l with
 | nil=>simp
 | cons v r ih=>
  simp only[bz]at h<;>grind
theorem lH (h:∀(i:Nat) x,l[i]? = some x->x.top<=n):bz l<=n:=by
 induction l with
 | nil=>simp[bz]
 | cons v r ih=>
  simp only[bz];have h0:=h 0 v rfl;have h1:=ih (fun i x hx=>h (i+1) x aw);omega
theorem V.gC {ρ ρ':aM}(hρ:∀b,b<n->ρ' b=ρ b)(hF:∀c,da ρ c->da ρ' c){a:AV}{v:Value}(hv:V ρ w a v):a.top<=n->V ρ' w a v:=by
 induction hv with
 | dj v=>exact fun _=>.dj v
 | bool b=>exact fun _=>.bool b
 | int k n=>exact fun _=>.int k n
 | str s=>exact fun _=>.str s
 | eK=>exact fun _=>.eK
 | ptr o hb=>exact fun h=>.ptr o (by simp only[AV.top]at h;grind)
 | eM o c o' hb=>exact fun h=>.eM o c o' (by simp only[AV.top]at h;grind)
 | vp c o g hf hc _ ih=>exact fun h=>.vp c o g aw hc (fun i x hx=>ih i x hx (fx (by simpa only[AV.top] using h) i x hx))
 | ab=>exact fun _=>.ab
 | sl hb hl hcap hs=>exact fun h=>.sl (by simp only[AV.top]at h;grind) hl hcap hs
 | fX hb=>exact fun h=>.fX (by simp only[AV.top]at h;grind)
 | fm c o' hb hl hcap=>exact fun h=>.fm c o' (by simp only[AV.top]at h;grind) hl hcap
 | fJ hb=>exact fun h=>.fJ (by simp only[AV.top]at h;grind)
 | fY a hb=>exact fun h=>.fY a (by simp only[AV.top]at h;grind)
 | vs c o g hf hl hcap hc _ ih=>exact fun h=>.vs c o g aw hl hcap hc (fun i x hx=>ih i x hx (fx (by simpa only[AV.top] using h) i x hx))
 | fa hcap=>exact fun _=>.fa hcap
 | fK a hcap=>exact fun _=>.fK a hcap
 | eO=>exact fun _=>.eO
 | map hb=>exact fun h=>.map (by simp only[AV.top]at h;grind)
 | iw v hb=>exact fun h=>.iw v (by simp only[AV.top]at h;grind)
 | yield hb=>exact fun h=>.yield (by simp only[AV.top]at h;rw[hρ _ ac];exact hb)
 | @fn f fi ca _ _ hf h1 h2 _ _ ih1 ih2=>
  intro h;have hh:bz fi<=n/\bz ca<=n:=by
   cases f <;> simp only[AV.top]at h <;> exact⟨ac,ac⟩
  exact .fn hf h1 h2 (by grind[fx]) (by grind[fx])
 | gY v hb=>exact fun h=>.gY v (by simp only[AV.top]at h;grind)
 | fH=>exact fun _=>.fH
 | iface _ ih=>exact fun h=>.iface (ih (by simpa only[AV.top] using h))
 | dN=>exact fun _=>.dN
 | agg hl _ ih=>exact fun h=>.agg hl (fun i x y a b=>ih i x y a b (fx (by simpa only[AV.top] using h) i x a))
 | ay hl _ ih=>exact fun h=>.ay hl (fun i x y a b=>ih i x y a b (fx (by simpa only[AV.top] using h) i x a))
theorem V.cut {ρ:aM}{a:AV}(hv:V ρ w a v):a.top<=n->V (iX n ρ) w a v:=
 hv.gC (fun b hb=>by simp only[iX];grind) (fun _ h=>h.cut n)
theorem V.top {ρ:aM}(hn:∀b,n<=b->ρ b = .fresh){a:AV}{v:Value}(hv:V ρ w a v):a.top<=n:=by
 have key:∀b,ρ b≠.fresh->b+1<=n:=aw;induction hv with
 | ptr o hb=>exact key _ aw
 | eM o c o' hb=>exact key _ aw
 | vp c o g hf hc _ ih=>exact lH ih
 | sl hb _ _ _=>exact key _ aw
 | fX hb=>exact key _ aw
 | fm c o' hb _ _=>exact key _ aw
 | fJ hb=>exact key _ aw
 | fY a hb=>exact key _ aw
 | vs c o g hf hl hcap hc _ ih=>exact lH ih
 | map hb=>exact key _ aw
 | iw v hb=>exact key _ aw
 | @yield b _ _ hb=>have:=key b aw;simp only[AV.top,bz];omega
 | @fn f fi ca fi' ca' hf h1 h2 _ _ ih1 ih2=>
  have a1:bz fi<=n:=lH fun i x hx=>by
   have hi:i<fi'.length:=h1 ▸ (aZ.1 hx).1;exact ih1 i x fi'[i] hx (b7 hi)
  have a2:bz ca<=n:=lH fun i x hx=>by
   have hi:i<ca'.length:=h2 ▸ (aZ.1 hx).1;exact ih2 i x ca'[i] hx (b7 hi)
  cases f <;> simp only[AV.top] <;> first|omega|grind
 | @gY b v hb=>have:=key b aw;simp only[AV.top,bz];omega
 | iface _ ih=>exact ih
 | @agg l m hl _ ih=>
  exact lH fun i x hx=>by
   have hi:i<m.length:=hl ▸ (aZ.1 hx).1;exact ih i x m[i] hx (b7 hi)
 | @ay l m hl _ ih=>
  exact lH fun i x hx=>by
   have hi:i<m.length:=hl ▸ (aZ.1 hx).1;exact ih i x m[i] hx (b7 hi)
 | _=>simp[AV.top,bz]
end Go.Ab
namespace Go.Ab
variable {w w':World} {h:ae} {ρ:aM} {b c:Nat} {O:Obj}
variable {P:Program} {gl:Nat->Option AV}
theorem FH {a:Addr}(h:w'.heap[a.block]? = w.heap[a.block]?):w'.frozen? a=w.frozen? a:=by
 unfold ip;rw[h]
theorem BR.mono {h':ae}{ρ':aM}(x:Ext h h' ρ ρ' w w'){b:Nat}(hρ:ρ' b=ρ b)
 (hh:∀c d,ρ b = .live c d->w'.heap[c]? = w.heap[c]?) {o:bR} (hb:BR P gl ρ w b o):BR P gl ρ' w' b o:=by
 cases o with
 | cells l e=>
  rcases hb with ⟨c,d,cs,fr,h1,h2,h3,h4,h5⟩|⟨h1,h2⟩
  . refine .inl ⟨c,d,cs,fr,hρ.trans h1,(hh c d h1).trans h2,h3,fun i hi=>?_,fun i x' y hx hy=>(h5 i x' y hx hy).mono x⟩;rw[FH (w:=w) (hh c d h1)];grind
  . exact .inr ⟨hρ.trans h1,h2⟩
 | map es=>
  obtain⟨c,ms,clk,h1,h2,h3,h4⟩:=hb;exact⟨c,ms,clk,hρ.trans h1,(hh c 0 h1).trans h2,h3,fun i kx vx m hx hm=>let ⟨a,b⟩:=h4 i kx vx m hx hm;⟨a.mono x,b.mono x⟩⟩
 | iter s pos=>obtain⟨c,h1,h2⟩:=hb;exact⟨c,hρ.trans h1,(hh c 0 h1).trans h2⟩
 | gA=>obtain⟨c,h1,h2⟩:=hb;exact⟨c,hρ.trans h1,(hh c 0 h1).trans h2⟩
 | hole=>exact hρ.trans hb
 | loop st pend pe ps a bd=>
  obtain⟨c,r,aP,N,h1,h2,h3,h4,h5,h6⟩:=hb;exact⟨c,r,aP,N,hρ.trans h1,(hh c 0 h1).trans h2,h3,h4,h5.mono x,h6⟩
theorem BR.live {o:bR}(hb:BR P gl ρ w b o):(∃c d,ρ b = .live c d)\/ρ b = .nil\/ρ b = .fresh:=by
 cases o with
 | cells l e=>
                rcases hb with ⟨c,d,_,_,h1,_⟩|⟨h1,_⟩
                . grind
                grind
 | map es=>obtain⟨c,_,_,h1,_⟩:=hb;grind
 | iter s pos=>obtain⟨c,h1,_⟩:=hb;grind
 | gA=>obtain⟨c,h1,_⟩:=hb;grind
 | hole=>exact .inr (.inr hb)
 | loop=>obtain⟨c,_,_,_,h1,_⟩:=hb;grind
def aM.dT (ρ:aM)(b:Nat)(s:BS):aM:=⟨fun x=>if x=b then s else ρ x,ρ.X⟩
@[simp] theorem aM.adB (ρ:aM)(b:Nat)(s:BS):(ρ.dT b s).X=ρ.X:=rfl
@[simp] theorem aM.fZ (ρ:aM)(b:Nat)(s:BS):ρ.dT b s b=s:=by simp[aM.dT]
theorem aM.dD {x:Nat}{s:BS}(h:x≠b):ρ.dT b s x=ρ x:=by simp[aM.dT,h]
theorem FI (hc:c<w.heap.size):(w.heap.push O)[c]? = w.heap[c]? := by
 grind
theorem Ext.alloc (m:Mem P gl ρ h w)(o:Option bR)(O:Obj)(s:BS)(hs:(∃d,s = .live w.heap.size d)\/s = .nil\/s = .dead) :
 Ext h (h++[o]) ρ (ρ.dT h.length s) w { w with heap:=w.heap.push O } where
 os:=rfl
 tape:=rfl
 output:=rfl
 size:=by simp
 len:=by simp
 X:=rfl
 dj b hb:=by
  grind
 same b hb:=by
  have hlt:=(aZ.1 hb).1;exact aM.dD ac
 live b c d hb:=by
  have:b≠h.length:=fun e=>by rw[m.fresh b ac]at hb;cases hb
  exact .inl ((aM.dD this).trans hb)
 dead b hb:=by
  have:b≠h.length:=fun e=>by rw[m.fresh b ac]at hb;cases hb
  exact(aM.dD this).trans hb
 nil b hb:=by
  have:b≠h.length:=fun e=>by rw[m.fresh b ac]at hb;cases hb
  exact .inl ((aM.dD this).trans hb)
 cT c hc _:=FI hc
 back b c d hb hc:=by
  by_cases e:b=h.length
  . subst e;rw[aM.fZ]at hb;grind
  . rw[aM.dD e]at hb;grind
 shape c cs e fr hc:=⟨cs,fr,aw,rfl⟩
theorem Ext.drew (h:ae)(ρ:aM)(w:World)(n:Nat):Ext h h ρ ρ w { w with drawn:=n }:=
 ⟨rfl,rfl,rfl,bj _,bj _,rfl,fun _ h=>h,fun _ _=>rfl,aw,fun _ h=>h,aw,aq,aw,
  aw⟩
theorem Mem.ext {ρ':aM}{h':ae}(m:Mem P gl ρ h w)(x:Ext h h' ρ ρ' w w')
 (hb:∀b o,h'[b]? = some (some o)->BR P gl ρ' w' b o) (hf:∀b,h'.length<=b->ρ' b = .fresh)
 (hi:∀b b' c d d',ρ' b = .live c d->ρ' b' = .live c d'->b=b') (hbd:∀b c d,ρ' b = .live c d->c<w'.heap.size):Mem P gl ρ' h' w':=
 ⟨hb,hf,hi,hbd,fun c hc=>d9 (m.xb c (by rw[←x.X];exact hc)) x.size,fun b c d hl hX=>by
  rw[x.X]at hX;have hlt:=m.xb c hX;rcases x.back b c d hl hlt with h1|⟨b0,d0,h1,_⟩
  . exact m.xo _ _ _ h1 hX
  . exact m.xo _ _ _ h1 hX,fun g v hg=>(m.gl g v hg).mono x⟩
theorem Mem.alloc (m:Mem P gl ρ h w)(o:Option bR)(O:Obj)(s:BS)(hs:(∃d,s = .live w.heap.size d)\/s = .nil\/s = .dead)
 (ho:∀o',o=some o'->BR P gl (ρ.dT h.length s) { w with heap:=w.heap.push O } h.length o') :
 Mem P gl (ρ.dT h.length s) (h++[o]) { w with heap:=w.heap.push O }:=by
 have x:=Ext.alloc m o O s hs;refine m.ext x ?_ ?_ ?_ ?_
 . intro b o' hb;rcases i5 b h.length with hlt|heq|hgt
   . rw[fF hlt]at hb;refine(m.dm b o' hb).mono x (aM.dD ac) (fun c d hl=>FI (m.bound b c d hl))
   . grind
   grind
 . intro b hb;simp at hb;rw[aM.dD ac];exact m.fresh b ac
 . intro b b' c d d' h1 h2;have bd:∀{x c d},ρ x = .live c d->c<w.heap.size:=fun h=>m.bound _ _ _ h
   by_cases e:b=h.length <;> by_cases e':b'=h.length
   . omega
   . subst e;rw[aM.fZ]at h1;rw[aM.dD e']at h2;grind
   . subst e';rw[aM.fZ]at h2;rw[aM.dD e]at h1;grind
   . rw[aM.dD e]at h1;rw[aM.dD e']at h2;exact m.inj b b' c d d' h1 h2
 . intro b c d hl;show c<(w.heap.push O).size;rw[Array.size_push];by_cases e:b=h.length
   . subst e;rw[aM.fZ]at hl;grind
   . rw[aM.dD e]at hl;have:=m.bound b c d hl;omega
theorem Mem.drew (m:Mem P gl ρ h w)(n:Nat):Mem P gl ρ h { w with drawn:=n }:=
 m.ext (Ext.drew h ρ w n) (fun b o hb=>(m.dm b o hb).mono (Ext.drew h ρ w n) rfl aq) m.fresh m.inj m.bound
def _root_.Go.World.dE (w:World)(c:Nat)(O:Obj):World:={ w with heap:=w.heap.setIfInBounds c O }
theorem mU (hc:c<w.heap.size):(w.dE c O).heap[c]? = some O:=by
 simp[World.dE,hc]
theorem yO {c':Nat}(hc:c'≠c):(w.dE c O).heap[c']? = w.heap[c']? := by
 simp only[World.dE];grind
theorem lI {b':Nat}{o:Option bR}(hb:b'≠b):(h.set b o)[b']? = h[b']? := by
 grind
theorem Ext.write (_m:Mem P gl ρ h w){b c d:Nat}{o0:bR}(h0:h[b]? = some (some o0))(hρ:ρ b = .live c d)(o:Option bR)(O:Obj)
 (hO:∀cs e fr,w.heap[c]? = some (.cells cs e fr)->∃cs' fr',O = .cells cs' e fr'/\cs'.size=cs.size) :
 Ext h (h.set b o) ρ ρ w (w.dE c O) where
 os:=rfl
 tape:=rfl
 output:=rfl
 size:=by simp[World.dE]
 len:=by simp
 X:=rfl
 dj b' hb':=by
  grind
 same _ _:=rfl
 live _ _ _ h:=.inl h
 dead _ h:=h
 nil _ h:=.inl h
 cT c' hc' hu:=by
  have:c'≠c:=aw;exact yO this
 back _ _ _ h _:=.inl h
 shape c' cs e fr hc':=by
  by_cases e':c'=c
  . subst e';obtain⟨cs',fr',rfl,hs⟩:=hO cs e fr hc';exact⟨cs',fr',mU aw,hs⟩
  . exact⟨cs,fr,by rw[yO e'];exact hc',rfl⟩
theorem Mem.write (m:Mem P gl ρ h w){b c d:Nat}{o0:bR}(h0:h[b]? = some (some o0))(hρ:ρ b = .live c d)(o:Option bR)(O:Obj)
 (hO:∀cs e fr,w.heap[c]? = some (.cells cs e fr)->∃cs' fr',O = .cells cs' e fr'/\cs'.size=cs.size)
 (ho:∀o',o=some o'->BR P gl ρ (w.dE c O) b o'):Mem P gl ρ (h.set b o) (w.dE c O):=by
 have x:=Ext.write m h0 hρ o O hO;refine m.ext x ?_ ?_ m.inj ?_
 . intro b' o' hb';by_cases e:b'=b
   . grind
   . rw[lI e]at hb';exact(m.dm b' o' hb').mono x rfl (fun c' d' hl=>yO (fun e'=>e (m.inj b' b c d' d (e' ▸ hl) hρ)))
 . intro b' hb';simp at hb';exact m.fresh b' hb'
 . intro b' c' d' hl;have:=m.bound b' c' d' hl;simpa[World.dE] using this
theorem Ext.forget {o0:bR}(h0:h[b]? = some (some o0))(hl:∀c d,ρ b = .live c d->c<w.heap.size) :
 Ext h (h.set b none) ρ (ρ.dT b .dead) w w where
 os:=rfl
 tape:=rfl
 output:=rfl
 size:=bj _
 len:=by simp
 X:=rfl
 dj b' hb':=by
  grind
 same b' hb':=by
  have:b'≠b:=aw;exact aM.dD this
 live b' c d hb':=by
  by_cases e:b'=b
  . subst e;simp
  . exact .inl ((aM.dD e).trans hb')
 dead b' hb':=by
  by_cases e:b'=b
  . subst e;simp
  . exact(aM.dD e).trans hb'
 nil b' hb':=by
  by_cases e:b'=b
  . subst e;simp
  . exact .inl ((aM.dD e).trans hb')
 cT _ _ _:=rfl
 back b' c d hb' _:=by
  by_cases e:b'=b
  . subst e;rw[aM.fZ]at hb';cases hb'
  . rw[aM.dD e]at hb';grind
 shape _ cs _ fr h:=⟨cs,fr,h,rfl⟩
theorem Mem.forget (m:Mem P gl ρ h w){b:Nat}{o0:bR}(h0:h[b]? = some (some o0)):Mem P gl (ρ.dT b .dead) (h.set b none) w:=by
 have x:=Ext.forget (w:=w) h0 (fun c d hl=>m.bound b c d hl);have hlt:b<h.length:=(aZ.1 h0).1;refine m.ext x ?_ ?_ ?_ ?_
 . intro b' o' hb';by_cases e:b'=b
   . grind
   . rw[lI e]at hb';exact(m.dm b' o' hb').mono x (aM.dD e) aq
 . intro b' hb';simp at hb';rw[aM.dD ac];exact m.fresh b' hb'
 . intro b1 b2 c d d' h1 h2;by_cases e1:b1=b
   . subst e1;rw[aM.fZ]at h1;cases h1
   . by_cases e2:b2=b
     . subst e2;rw[aM.fZ]at h2;cases h2
     . rw[aM.dD e1]at h1;rw[aM.dD e2]at h2;exact m.inj _ _ _ _ _ h1 h2
 . intro b' c d hl;by_cases e:b'=b
   . subst e;rw[aM.fZ]at hl;cases hl
   . rw[aM.dD e]at hl;exact m.bound _ _ _ hl
theorem Ext.move (m:Mem P gl ρ h w){b c d:Nat}{o0:bR}(h0:h[b]? = some (some o0))(hρ:ρ b = .live c d)(o:Option bR)(d':Nat) :
 Ext h (h.set b none++[o]) ρ ((ρ.dT b .dead).dT h.length (.live c d')) w w:=by
 have hlt:b<h.length:=(aZ.1 h0).1;have x:=Ext.forget (w:=w) h0 (fun c d hl=>m.bound b c d hl);have cT:∀b',ρ b'≠.fresh->b'≠h.length:=fun b' hb e=>hb (m.fresh b' ac)
 refine⟨rfl,rfl,rfl,bj _,aq,rfl,?_,?_,?_,?_,?_,aq,?_,aw⟩
 . grind
 . intro b' hb';have hlt':=(aZ.1 hb').1;rw[aM.dD ac];exact x.same b' hb'
 . intro b' c' d'' hb';rw[aM.dD aw];exact x.live b' c' d'' hb'
 . intro b' hb';rw[aM.dD aw];exact x.dead b' hb'
 . intro b' hb';rw[aM.dD aw];exact x.nil b' hb'
 . intro b' c' d'' hb' hc;by_cases e:b'=h.length
   . subst e;rw[aM.fZ]at hb';grind
   . rw[aM.dD e]at hb';exact x.back b' c' d'' hb' hc
theorem Mem.move (m:Mem P gl ρ h w){b c d:Nat}{o0:bR}(h0:h[b]? = some (some o0))(hρ:ρ b = .live c d)(o:Option bR)(d':Nat)
 (ho:∀o',o=some o'->BR P gl ((ρ.dT b .dead).dT h.length (.live c d')) w h.length o'):Mem P gl ((ρ.dT b .dead).dT h.length (.live c d')) (h.set b none++[o]) w:=by
 have hlt:b<h.length:=(aZ.1 h0).1;have x:=Ext.move m h0 hρ o d';have m':=m.forget h0;refine m.ext x ?_ ?_ ?_ ?_
 . intro b' o' hb';rcases i5 b' h.length with hl|he|hg
   . rw[fF aw]at hb';by_cases e:b'=b
     . grind
     . rw[lI e]at hb';exact(m.dm b' o' hb').mono x (by rw[aM.dD ac,aM.dD e]) aq
   . grind
   grind
 . intro b' hb';simp at hb';rw[aM.dD ac];exact m'.fresh b' aw
 . intro b1 b2 c1 d1 d2 h1 h2;have key:∀b1 d1,b1≠h.length->(ρ.dT b .dead) b1 = .live c d1->False:=fun b1 d1 e h1=>by
    by_cases e1:b1=b
    . subst e1;rw[aM.fZ]at h1;cases h1
    . rw[aM.dD e1]at h1;exact e1 (m.inj _ _ _ _ _ h1 hρ)
   by_cases e1:b1=h.length <;> by_cases e2:b2=h.length
   . omega
   . subst e1;rw[aM.fZ]at h1;cases h1;rw[aM.dD e2]at h2;grind
   . subst e2;rw[aM.fZ]at h2;cases h2;rw[aM.dD e1]at h1;grind
   . rw[aM.dD e1]at h1;rw[aM.dD e2]at h2;exact m'.inj _ _ _ _ _ h1 h2
 . intro b' c' d'' hl;by_cases e:b'=h.length
   . subst e;rw[aM.fZ]at hl;cases hl;exact m.bound _ _ _ hρ
   . rw[aM.dD e]at hl;exact m'.bound _ _ _ hl
end Go.Ab
namespace Go.Ab
variable {v x':Value} {l:List AV} {m:List Value} {t e:TypeId} {n:Nat}
variable {P:Program} {gl:Nat->Option AV} {ρ:aM} {w:World}
theorem V.gD {k:IntKind}{n:Int}(h:V ρ w (.int k n) v):v = .int k n:=by cases h;rfl
theorem V.lJ {b:Bool}(h:V ρ w (.bool b) v):v = .bool b:=by cases h;rfl
theorem V.jG {s:List UInt8}(h:V ρ w (.str s) v):v = .string ⟨s.toArray⟩:=by cases h;rfl
theorem V.iY (h:V ρ w (.agg l) v):∃m:List Value,v = .agg m.toArray/\VL ρ w l m:=by
 cases h with|agg h g=>exact⟨_,rfl,h,g⟩
theorem V.FJ (h:V ρ w (.ay l) v):∃m:List Value,v = .tuple m.toArray/\VL ρ w l m:=by
 cases h with|ay h g=>exact⟨_,rfl,h,g⟩
theorem V.qR (h:VL ρ w l m):V ρ w (.agg l) (.agg m.toArray):=.agg h.1 h.2
theorem V.iG (h:VL ρ w l m):V ρ w (.ay l) (.tuple m.toArray):=.ay h.1 h.2
theorem V.undef:V ρ w cG undef:=V.iG VL.nil
theorem VL.get (h:VL ρ w l m){i:Nat}{x:AV}(hx:l[i]? = some x):∃y,m[i]? = some y/\V ρ w x y:=by
 have hi:i<m.length:=h.1 ▸ (aZ.1 hx).1;exact⟨m[i],b7 hi,h.2 i x _ hx (b7 hi)⟩
theorem yP {rec:Value->Option AV}(hr:∀v a,rec v=some a->V ρ w a v):∀(l:List Value) (r:List AV),oW rec l=some r->VL ρ w r l
 | [],r,h=>by simp[oW]at h;subst h;exact .nil
 | v::l,r,h=>by
  simp only[oW]at h;split at h
  . rename_i a r' h1 h2;cases h;exact .cons (hr v a h1) (yP hr l r' h2)
  . cases h
theorem qS:∀(n:Nat) (v:Value) (a:AV),mS n v=some a->V ρ w a v
 | 0,_,_,h=>by simp[mS]at h
 | n+1,v,a,h=>by
  unfold mS at h;split at h
  . cases h;exact .bool _
  . cases h;exact .int _ _
  . grind[V.yM]
  . cases h;exact .eK
  . cases h;exact .ab
  . cases h;exact .eO
  . cases h;exact .fH
  . cases h;exact .dN
  . cases h;exact V.fn (fi':=[]) (ca':=[]) aq rfl rfl aq aq
  . rename_i cs;simp only[az]at h;obtain⟨l,h1,rfl⟩:=h;exact V.qR (yP (fun v a=>qS n v a) cs l h1)
  . rename_i cs;simp only[az]at h;obtain⟨l,h1,rfl⟩:=h;exact V.iG (yP (fun v a=>qS n v a) cs l h1)
  . cases h
theorem FK {t:Nat}:∀{l:List Nat} {k i:Nat},idx t l k=some i->∃j,i=k+j/\l[j]? = some t
 | [],_,_,h=>by simp[idx]at h
 | u::r,k,i,h=>by
  simp only[idx]at h;split at h
  . simp_all
  . obtain⟨j,h1,h2⟩:=FK h;exact⟨j+1,ac,aw⟩
theorem tI {t:Nat}{l:List Nat}{i:Nat}(h:idx t l 0=some i):l[i]? = some t:=by
 obtain⟨j,rfl,h2⟩:=FK h;grind
theorem tJ {t:Nat}:∀{l:List Nat} {k:Nat},idx t l k=none->t∉l
 | [],_,_=>by simp
 | u::r,k,h=>by
  simp only[idx]at h;split at h
  . cases h
  . rename_i hu;have:=tJ h;simp;exact⟨fun e=>hu e.symm,this⟩
structure Rel (C:Cx)(ρ:aM)(s:St)(a:Act)(w:World):Prop where
 er:ER C ρ w s.pe s.lo a.tmps
 mem:Mem C.P C.gl ρ s.hp w
variable {C:Cx} {s:St} {a:Act}
theorem NT (r:ER C ρ w s.pe s.lo a.tmps)(g:∀n v,C.gl n=some v->V ρ w v (.pointer (some ⟨n,0,none⟩))){x:Operand}{y:aO}(hc:gB C x=some y){v:AV}(hv:s.ah y=some v) :
 V ρ w v (a.eval x):=by
 cases x with
 | tmp t=>
  simp only[gB]at hc;split at hc
  . rename_i i hi;cases hc;exact r.pe i v t hv (tI hi)
  . cases hc;exact(r.lo t v hv).2.2
 | const c=>
  simp only[gB,az]at hc;obtain⟨u,h1,rfl⟩:=hc;simp only[St.ah,b6.injEq]at hv;subst hv;exact qS 5 c _ h1
 | global n=>
  simp only[gB,az]at hc;obtain⟨u,h1,rfl⟩:=hc;simp only[St.ah,b6.injEq]at hv;subst hv;exact g n _ h1
 | func f=>
  simp only[gB]at hc;cases hc;simp only[St.ah]at hv;cases hv;exact V.fn (fi':=[]) (ca':=[]) aq rfl rfl aq aq
theorem Rel.ah (r:Rel C ρ s a w){x:Operand}{y:aO}(hc:gB C x=some y){v:AV}(hv:s.ah y=some v):V ρ w v (a.eval x):=
 NT r.er r.mem.gl hc hv
theorem Rel.cS (r:Rel C ρ s a w):∀{xs:List Operand} {ys:List aO},ir C xs=some ys->∀{vs:List AV},s.cS ys=some vs->VL ρ w vs (xs.map a.eval)
 | [],ys,hc,vs,hv=>by
  simp[ir]at hc;subst hc;simp[St.cS]at hv;subst hv;exact .nil
 | x::xs,ys,hc,vs,hv=>by
  simp only[ir]at hc;split at hc
  . rename_i y l h1 h2;cases hc;simp only[St.cS]at hv;split at hv
    . rename_i v hv1;split at hv
      . rename_i vs' hv2;cases hv;exact .cons (r.ah h1 hv1) (r.cS h2 hv2)
      grind
    grind
  grind
theorem NU {op:BinOp}{x y v:AV}{y':Value}(hx:V ρ w x x')(hy:V ρ w y y')(h:dy op x y=some v)(t:TypeId) :
 ∃v',(binOp op t x' y').run P w = .ok v' w/\V ρ w v v':=by
 unfold dy at h;split at h
 . rename_i k a k' b;obtain rfl:=hx.gD;obtain rfl:=hy.gD;split at h
   . split at h
     . cases h
     . rename_i hb;cases h;exact⟨_,by simp[binOp,Op.shift,hb] <;> rfl,.int _ _⟩
   . split at h
     . cases h
     . rename_i hb;cases h;exact⟨_,by simp[binOp,Op.shift,hb] <;> rfl,.int _ _⟩
   . rename_i op' h1 h2;split at h
     . rename_i hk;subst hk;split at h <;> first
        | (cases h;exact⟨_,by simp only[binOp];rw[if_neg aq];rfl,.int _ _⟩)
        | (cases h;exact⟨_,by simp only[binOp];rw[if_neg aq];rfl,.bool _⟩)
        | (split at h;cases h;rename_i hb;cases h;exact⟨_,by simp[binOp,Op.intDiv,hb] <;> rfl,.int _ _⟩)
        | cases h
     . cases h
 . rename_i a b;obtain rfl:=hx.jG;obtain rfl:=hy.jG;split at h
   . split at h
     . rename_i hl;cases h;refine⟨.string ⟨(a++b).toArray⟩,?_,.str _⟩;have hs:¬(((cd a.toArray).size+(cd b.toArray).size:Nat):Int) > IntKind.i64.max:=by
        have e1:(cd a.toArray).size=a.length:=by simp[c7]
        have e2:(cd b.toArray).size=b.length:=by simp[c7]
        rw[e1,e2];have:IntKind.i64.max=9223372036854775807:=by decide
        omega
       have e:(cd a.toArray)++(cd b.toArray)=⟨(a++b).toArray⟩:=by
        apply iB;simp
       simp only[binOp,Op.stringOp]<;>simp_all
     . cases h
   all_goals first
    | (cases h;exact⟨_,by simp[binOp,Op.stringOp] <;> rfl,.bool _⟩)
    | cases h
 . cases h
theorem NV {op:UnOp}{x v:AV}(hx:V ρ w x x')(h:tx op x=some v):∃v',(Op.unary op x').run P w = .ok v' w/\V ρ w v v':=by
 unfold tx at h;split at h
 . obtain rfl:=hx.gD;cases h;exact⟨_,by rfl,.int _ _⟩
 . obtain rfl:=hx.lJ;cases h;exact⟨_,by rfl,.bool _⟩
 . obtain rfl:=hx.gD;cases h;exact⟨_,by rfl,.int _ _⟩
 . cases h
theorem bV {d:TypeDesc}(h:P.underlying t=some d):(underlying t).run P w = .ok d w:=by simp[underlying,h]
theorem tK {i:TypeInfo}(h:P.info? t=some i):(typeInfo t).run P w = .ok i w:=by simp[typeInfo,h]
theorem gZ {i:TypeInfo}(h:P.info? t=some i):(sizeOf t).run P w = .ok i.size w:=by simp[sizeOf,typeInfo,h]
theorem FL {d:TypeDesc}(h:P.underlying t=some d):(isAgg t).run P w = .ok (yJ d) w:=by
 simp only[isAgg,bc,bV h,aW];cases d <;> rfl
theorem qT {ag:Bool}(h:shapeOf P t=some (n,ag)):∃i d,P.info? t=some i/\P.underlying t=some d/\i.size=n/\yJ d=ag:=by
 unfold shapeOf at h;grind
theorem NW (h:VL ρ w l m){off n:Nat}{r:List AV}(hc:cut l off n=some r):VL ρ w r ((m.drop off).take n)/\r.length=n:=by
 unfold cut at hc;simp only at hc;split at hc
 . rename_i hl;cases hc;exact⟨(h.drop off).take n,hl⟩
 grind
theorem NX (m:List Value)(off n:Nat):(m.toArray.extract off (off+n))=((m.drop off).take n).toArray:=by
 simp
theorem pc {ag:Bool}(hs:shapeOf P t=some (n,ag)){l:List AV}{m:List Value}(h:VL ρ w l m){off:Nat}{v:AV}(hv:partOf l off n ag=some v) :
 ∃v',(part t m.toArray off).run P w = .ok v' w/\V ρ w v v':=by
 obtain⟨i,d,h1,h2,rfl,rfl⟩:=qT hs;unfold partOf at hv;simp only[part,bc,FL h2,aW];split at hv
 . rename_i hag;simp only[az]at hv;obtain⟨r,hr,rfl⟩:=hv;obtain⟨hr1,hr2⟩:=NW h hr;rw[if_pos hag];refine⟨.agg ((m.drop off).take i.size).toArray,?_,V.qR hr1⟩;simp only[bc,gZ h1,aW,NX];rfl
 . rename_i hag;rw[if_neg hag];obtain⟨y,hy1,hy2⟩:=h.get hv<;>simp_all
theorem NY {i:Nat}{x:List AV}(hx:V ρ w (.ay x) x'){v:AV}(h:x[i]? = some v):∃v',(Instr.extract x' i).run P w = .ok v' w/\V ρ w v v':=by
 obtain⟨m,rfl,hl⟩:=hx.FJ;obtain⟨y,hy1,hy2⟩:=hl.get h;refine⟨y,?_,hy2⟩;have:m.toArray[i]? = some y:=by simpa using hy1
 simp only[Instr.extract,this];rfl
theorem NZ (hd:P.underlying t=some (.pointer e)){x y:AV}{x' y':Value}(hx:V ρ w x x')(hy:V ρ w y y'){r:Bool}
 (h:jk .ptr x y=some r):(Op.equalIn (n+1) t x' y').run P w = .ok r w:=by
 unfold jk at h;split at h
 all_goals first|contradiction|skip
 all_goals (cases h;cases hx <;> cases hy <;> simp[Op.equalIn,bV hd])
theorem Oa (hd:P.underlying t=some (.slice e)){x y:AV}{x' y':Value}(hx:V ρ w x x')(hy:V ρ w y y'){r:Bool}
 (h:jk .slice x y=some r):(Op.equalIn (n+1) t x' y').run P w = .ok r w:=by
 unfold jk at h;split at h
 all_goals first|contradiction|skip
 all_goals (cases h;cases hx <;> cases hy <;> simp[Op.equalIn,bV hd])
theorem Ob {k:TypeId}(hd:P.underlying t=some (.map k e)){x y:AV}{x' y':Value}(hx:V ρ w x x')(hy:V ρ w y y'){r:Bool}
 (h:jk .map x y=some r):(Op.equalIn (n+1) t x' y').run P w = .ok r w:=by
 unfold jk at h;split at h
 all_goals first|contradiction|skip
 all_goals (cases h;cases hx <;> cases hy <;> simp[Op.equalIn,bV hd])
theorem Oc {ps rs:Array TypeId}{vr:Bool}(hd:P.underlying t=some (.func ps rs vr)){x y:AV}{x' y':Value}(hx:V ρ w x x')(hy:V ρ w y y'){r:Bool}
 (h:jk .func x y=some r):(Op.equalIn (n+1) t x' y').run P w = .ok r w:=by
 unfold jk at h;split at h
 all_goals first|contradiction|skip
 all_goals (cases h;cases hx <;> cases hy <;> simp[Op.equalIn,bV hd])
theorem Od {f d:Nat}(ih:∀(g:Bool) (T:TypeId) (t:gK),iu P d g T=some t->∀(x y:AV) (x' y':Value) (r:Bool),V ρ w x x'->V ρ w y y'->dG f t x y=some r ->
 ∀n,f<=n->(Op.equalIn n T x' y').run P w = .ok r w){n:Nat}(hn:f<=n){xs ys:List AV}{xm ym:List Value}(hx:VL ρ w xs xm)(hy:VL ρ w ys ym) :
 ∀(l:List Field) (fs:List (Nat×Nat×Bool×gK)),qO P (fun t=>iu P d true t) l=some fs->∀r,goEq (fun t x y=>dG f t x y) fs xs ys=some r ->
  (Op.eqFields n xm.toArray ym.toArray l).run P w = .ok r w:=by
 intro l;induction l with
 | nil=>
  intro fs hf r h;simp[qO]at hf;subst hf;simp[goEq]at h;subst h;rfl
 | cons fd l ihl=>
  intro fs hf r h;simp only[qO]at hf;split at hf
  . rename_i l' hl';split at hf
    . rename_i hname;cases hf;simp only[Op.eqFields]<;>grind
    . rename_i hname;split at hf
      . rename_i k ag e hs he;cases hf;simp only[goEq]at h;split at h
        . rename_i a b ha hb;obtain⟨a',ha1,ha2⟩:=pc hs hx ha;obtain⟨b',hb1,hb2⟩:=pc hs hy hb;simp only[Op.eqFields];rw[if_pos aw];simp only[bc,ha1,hb1,aW];split at h
          . rename_i hr;rw[ih true fd.type e he a b a' b' true ha2 hb2 hr n hn];simp only[aW,d7,b5,if_false]<;>grind
          . rename_i hr;cases h;rw[ih true fd.type e he a b a' b' false ha2 hb2 hr n hn];simp
          . cases h
        . cases h
      grind
  grind
theorem Oe {f d:Nat}(ih:∀(g:Bool) (T:TypeId) (t:gK),iu P d g T=some t->∀(x y:AV) (x' y':Value) (r:Bool),V ρ w x x'->V ρ w y y'->dG f t x y=some r ->
 ∀n,f<=n->(Op.equalIn n T x' y').run P w = .ok r w){n:Nat}(hn:f<=n){xs ys:List AV}{xm ym:List Value}(hx:VL ρ w xs xm)(hy:VL ρ w ys ym)
 {e:TypeId} {k:Nat} {ag:Bool} {q:gK} (hs:shapeOf P e=some (k,ag)) (hc:P.cellsOf e=k) (he:iu P d true e=some q) :
 ∀(m i:Nat) r,goEq (fun t x y=>dG f t x y) (qP k ag q m i) xs ys=some r ->
  (Op.eqItems n e (P.cellsOf e) xm.toArray ym.toArray (fM i m)).run P w = .ok r w:=by
 intro m;induction m with
 | zero=>
  intro i r h;simp[qP,goEq]at h;subst h;rfl
 | succ m ihm=>
  intro i r h;simp only[qP,goEq]at h;rw[i7];split at h
  . rename_i a b ha hb;obtain⟨a',ha1,ha2⟩:=pc hs hx ha;obtain⟨b',hb1,hb2⟩:=pc hs hy hb;simp only[Op.eqItems,hc];simp only[bc,ha1,hb1,aW];split at h
    . rename_i hr;rw[ih true e q he a b a' b' true ha2 hb2 hr n hn];simp only[aW,d7,b5,if_false]<;>grind
    . rename_i hr;cases h;rw[ih true e q he a b a' b' false ha2 hb2 hr n hn];simp
    . cases h
  . cases h
theorem Of:∀(f d:Nat) (g:Bool) (T:TypeId) (t:gK),iu P d g T=some t->∀(x y:AV) (x' y':Value) (r:Bool),V ρ w x x'->V ρ w y y'->dG f t x y=some r ->
 ∀n,f<=n->(Op.equalIn n T x' y').run P w = .ok r w:=by
 intro f;induction f with
 | zero=>intro d g T t _ x y x' y' r _ _ h;simp[dG]at h
 | succ f ih=>
  intro d g T t ht x y x' y' r hx hy h n hn;obtain⟨n,rfl⟩:∃m,n=m+1:=⟨n-1,ac⟩;cases d with
  | zero=>simp[iu]at ht
  | succ d=>
   simp only[iu]at ht;cases hu:P.underlying T with
   | none=>grind
   | some u=>
    simp only[hu]at ht;cases u <;> simp only[b6.injEq,reduceCtorEq]at ht
    case bool=>
     subst ht;simp only[dG]at h;split at h <;> simp_all
     obtain rfl:=hx.lJ;obtain rfl:=hy.lJ;simp[Op.equalIn,bV hu,h]
    case int k=>
     subst ht;simp only[dG]at h;split at h <;> simp_all
     obtain rfl:=hx.gD;obtain rfl:=hy.gD;obtain⟨rfl,h⟩:=h;simp[Op.equalIn,bV hu,h]
    case string=>
     subst ht;simp only[dG]at h;split at h <;> simp_all
     obtain rfl:=hx.jG;obtain rfl:=hy.jG;rw[run_equalIn_string w n T _ _ hu];simp[h]
    case pointer e=>subst ht;exact NZ hu hx hy (by simpa[dG] using h)
    case slice e=>subst ht;exact Oa hu hx hy (by simpa[dG] using h)
    case map k e=>subst ht;exact Ob hu hx hy (by simpa[dG] using h)
    case func ps rs vr=>subst ht;exact Oc hu hx hy (by simpa[dG] using h)
    case interface ms=>
     subst ht;simp only[dG]at h;generalize hg:(g && !ms.isEmpty)=g' at h;clear hg;split at h
     all_goals first|(rename_i heq;cases heq;done)|(rename_i heq _ _;cases heq;done)|skip
     all_goals first|(simp at h;done)|skip
     all_goals (cases hx;cases hy;first|(split at h;(cases h);(cases h;simp[Op.equalIn,bV hu]))|(cases h;simp[Op.equalIn,bV hu]))
    case struct fs=>
     split at ht
     . cases ht
     . rename_i hst;simp only[az]at ht;obtain⟨l,hl,rfl⟩:=ht;simp only[dG]at h;split at h <;> try (simp_all;done)
       rename_i fs' xs ys heq;cases heq;obtain⟨xm,rfl,hxm⟩:=hx.iY;obtain⟨ym,rfl,hym⟩:=hy.iY;have hfo:P.fieldsOf T=fs:=by simp[Program.fieldsOf,hu]
       grind[run_equalIn_struct,Od]
    case array m e=>
     split at ht
     . rename_i k ag q hs hq;cases ht;simp only[dG]at h;split at h <;> try (simp_all;done)
       rename_i fs' xs ys heq;cases heq;obtain⟨xm,rfl,hxm⟩:=hx.iY;obtain⟨ym,rfl,hym⟩:=hy.iY;obtain⟨i,dd,hi,_,hk,_⟩:=qT hs;have hc:P.cellsOf e=k:=by simp[Program.cellsOf,hi,hk]
       rw[run_equalIn_array w n _ _ hu hi,List.range_eq_range'];grind[Oe]
     grind
end Go.Ab
namespace Go.Ab
variable {l o n len esz dflt most r capC:Nat} {f:Field} {i:TypeInfo} {t e:TypeId} {cap:Option Nat} {x:Option AV} {a:Option Addr}
variable {P:Program} {gl:Nat->Option AV} {ρ:aM} {w:World}
theorem Og {src dst:TypeId}{k k':IntKind}(hs:P.underlying src=some (.int k'))(hd:P.underlying dst=some (.int k)){x v:AV}{x':Value}(hx:V ρ w x x')
 (h:oK k x=some v):∃v',(convert src dst x').run P w = .ok v' w/\V ρ w v v':=by
 unfold oK at h;split at h
 . cases h;obtain rfl:=hx.gD;exact⟨_,by simp[convert,bV hs,bV hd,Conv.intToInt] <;> rfl,.int _ _⟩
 . cases h
theorem Oh {x v:AV}{x':Value}(hx:V ρ w x x')(h:yI x=some v)(t:TypeId)(pos:String)(dst:Option Tmp)(af:Array Edge)(g:Option (Nat×Bool))(e:Operand->Value)(X:Operand)(hX:e X=x') :
 ∃v',(execOp e ⟨dst,.nilCheck X,t,pos,af,g⟩).run P w = .ok (.value v') w/\V ρ w v v':=by
 unfold yI at h;simp only[execOp,hX];split at h <;> cases h
 . cases hx with
   | ptr _ hb=>exact⟨_,rfl,.ptr _ hb⟩
   | eM _ _ _ hb=>exact⟨_,rfl,.eM _ _ _ hb⟩
 . cases hx with
   | vp c o g hf hc hg=>exact⟨_,rfl,.vp c o g hf hc hg⟩
 . cases hx with
   | fn hf h1 h2 g1 g2=>exact⟨_,rfl,.fn hf h1 h2 g1 g2⟩
 . cases hx with
   | yield hb=>exact⟨_,rfl,.yield hb⟩
   | fn hf h1 h2 g1 g2=>grind
   | gY c hb=>exact⟨_,rfl,.gY c hb⟩
theorem Addr.hJ (c o n:Nat):(⟨c,o,none⟩:Addr).add n=⟨c,o+n,none⟩:=by
 unfold Addr.add;simp
theorem yQ {l:List AV}{c:Nat}(h:V ρ w (.vp l) (.pointer (some ⟨c,o,none⟩)))(n:Nat):V ρ w (.vp (l.drop n)) (.pointer (some ⟨c,o+n,none⟩)):=by
 cases h with
 | vp c o g hf hc hg=>
  refine .vp c (o+n) (fun i=>g (n+i)) aw (fun i hi=>?_) (fun i x hx=>?_)
  . grind
  grind
theorem FM {l:List AV}{v:Value}(h:V ρ w (.vp l) v):∃c o,v = .pointer (some ⟨c,o,none⟩):=by
 cases h<;>grind
theorem Oi {a:Addr}(hi:P.info? f.type=some i)(h0:i.size≠0):(fieldPlace a f).run P w = .ok (a.add f.offset) w:=by
 simp[fieldPlace,gZ hi,h0]
theorem Oj {fs:Array Field}(hu:P.underlying t=some (.struct fs))(hf:fs[n]? = some f)(hi:P.info? f.type=some i)(h0:i.size≠0)
 {x v:AV} {x':Value} (hx:V ρ w x x') (h:yH f.offset x=some v):∃v',(Instr.fieldAt t x' n).run P w = .ok v' w/\V ρ w v v':=by
 have key:∀a,x' = .pointer (some a)->(Instr.fieldAt t x' n).run P w = .ok (.pointer (some (a.add f.offset))) w:=by
  rintro a rfl;simp[Instr.fieldAt,bV hu,hf,Instr.sureAddr,Oi hi h0]
 unfold yH at h;split at h <;> cases h
 . cases hx with
   | ptr _ hb=>
    refine⟨_,key _ rfl,?_⟩;rw[Addr.hJ,dr];exact .ptr _ hb
   | eM _ _ _ hb=>exact⟨_,key _ rfl,by rw[Addr.hJ];exact .eM _ _ _ hb⟩
 . obtain⟨c,o,rfl⟩:=FM hx;refine⟨_,key _ rfl,?_⟩;grind[Addr.hJ,yQ]
theorem pd (k:IntKind)(n:Int):(asIntOf (.int k n)).run P w = .ok (k,n) w:=rfl
theorem Ok {l:List AV}{v:Value}(h:V ρ w (.vs l len cap) v)(hn:0<len):∃c o capC,v = .slice (some ⟨c,o,none⟩) len capC/\V ρ w (.vp l) (.pointer (some ⟨c,o,none⟩)):=by
 cases h with
 | vs c o g hf hl hcap hc hg=>exact⟨c,o,_,rfl,.vp c o g hf hc hg⟩
 | fa hcap=>omega
 | fK a hcap=>omega
theorem yR (hu:P.underlying t=some (.slice e))(hi:P.info? e=some i){k:IntKind}{n:Int}{a:Addr}{len capC:Nat}(h0:0<=n)(h1:n<len) :
 (Instr.indexAt t (.slice (some a) len capC) (.int k n)).run P w = .ok (.pointer (some (a.add (n.toNat*i.size)))) w:=by
 simp[Instr.indexAt,pd,bV hu,gZ hi,h0,h1]
theorem yS (hu:P.underlying t=some (.array len e))(hi:P.info? e=some i){k:IntKind}{n:Int}{a:Addr}(h0:0<=n)(h1:n<len) :
 (Instr.indexAt t (.pointer (some a)) (.int k n)).run P w = .ok (.pointer (some (a.add (n.toNat*i.size)))) w:=by
 simp[Instr.indexAt,pd,bV hu,gZ hi,h0,h1,Instr.sureAddr]
theorem FN {arr:Option Nat}(hu:P.underlying t=some (match arr with|some len=>.array len e|none=>.slice e))(hi:P.info? e=some i)
 {x y v:AV} {x' y':Value} (hx:V ρ w x x') (hy:V ρ w y y') (h:oM arr i.size x y=some v):∃v',(Instr.indexAt t x' y').run P w = .ok v' w/\V ρ w v v':=by
 unfold oM at h;split at h
 . rename_i k n;obtain rfl:=hy.gD;split at h
   . split at h
     . rename_i hb;cases h;cases hx with
       | ptr _ hr=>
        refine⟨_,yS hu hi hb.1 hb.2,?_⟩;rw[Addr.hJ,dr];exact .ptr _ hr
       | eM _ _ _ hr=>exact⟨_,yS hu hi hb.1 hb.2,by rw[Addr.hJ];exact .eM _ _ _ hr⟩
     . cases h
   . split at h
     . rename_i hb;cases h;obtain⟨c,o,rfl⟩:=FM hx;refine⟨_,yS hu hi hb.1 hb.2,?_⟩;grind[Addr.hJ,yQ]
     . cases h
   . split at h
     . rename_i hb;cases h;obtain⟨h0,h1,rfl⟩:=hb;cases hx with
       | sl hr hl hcap hs=>
        refine⟨_,yR hu hi h0 h1,?_⟩;rw[Addr.hJ,dr];exact .ptr _ hr
       | fX hr=>omega
       | fm _ _ hr hl hcap=>exact⟨_,yR hu hi h0 h1,by rw[Addr.hJ];exact .eM _ _ _ hr⟩
       | fJ hr=>omega
       | fY a hr=>omega
     . cases h
   . split at h
     . rename_i hb;cases h;obtain⟨h0,h1⟩:=hb;obtain⟨c,o,capC,rfl,hv⟩:=Ok hx ac;refine⟨_,yR hu hi h0 h1,?_⟩;grind[Addr.hJ,yQ]
     . cases h
   . cases h
 . cases h
theorem Ol (hu:P.underlying t=some .string){x y v:AV}{x' y':Value}(hx:V ρ w x x')(hy:V ρ w y y')(h:tz x y=some v) :
 ∃v',(Instr.index t x' y').run P w = .ok v' w/\V ρ w v v':=by
 unfold tz at h;split at h
 . rename_i s k n;obtain rfl:=hx.jG;obtain rfl:=hy.gD;split at h
   . rename_i h0;simp only[az]at h;obtain⟨c,hc,rfl⟩:=h;refine⟨.int .u8 c.toNat,?_,.int _ _⟩;have e:(cd s.toArray)[n.toNat]? = some c:=by
      have hlt:=(aZ.1 hc).1;have:n.toNat<(cd s.toArray).size:=by simpa[c7] using hlt
      rw[getElem?_pos (cd s.toArray) n.toNat this];have h2:=(aZ.1 hc).2;congr 1
     simp[Instr.index,pd,bV hu,h0,e]
   . cases h
 . cases h
theorem Om {ag:Bool}(hu:P.underlying t=some (.array len e))(hs:shapeOf P e=some (esz,ag)){l:List AV}{x':Value}(hx:V ρ w (.agg l) x')
 {k:IntKind} {n:Int} (h0:0<=n) (h1:n<len) {v:AV} (h:partOf l (n.toNat*esz) esz ag=some v):∃v',(Instr.index t x' (.int k n)).run P w = .ok v' w/\V ρ w v v':=by
 obtain⟨m,rfl,hm⟩:=hx.iY;obtain⟨i,d,hi,hd,rfl,rfl⟩:=qT hs;obtain⟨v',h2,h3⟩:=pc hs hm h;refine⟨v',?_,h3⟩;simp[Instr.index,pd,bV hu,gZ hi,h0,h1,h2]
theorem On {fs:Array Field}{sz:Nat}{ag:Bool}(hu:P.underlying t=some (.struct fs))(hf:fs[n]? = some f)(hs:shapeOf P f.type=some (sz,ag))
 {l:List AV} {x':Value} (hx:V ρ w (.agg l) x') {v:AV} (h:partOf l f.offset sz ag=some v):∃v',(Instr.field t x' n).run P w = .ok v' w/\V ρ w v v':=by
 obtain⟨m,rfl,hm⟩:=hx.iY;obtain⟨v',h2,h3⟩:=pc hs hm h;refine⟨v',?_,h3⟩;simp[Instr.field,bV hu,hf,asAgg,h2]
theorem lK {a:AV}{b:Value}(hx:V ρ w a b){dflt most r:Nat}(h:bZ (some a) dflt most=some r) :
 (∀code,(Instr.sliceBound b most code).run P w = .ok r w)/\r<=most:=by
 unfold bZ at h;split at h
 . grind
 . rename_i k n heq;cases heq;split at h
   . rename_i hb;cases h;obtain rfl:=hx.gD;exact⟨fun code=>by simp[Instr.sliceBound,pd,hb.1,hb.2],ac⟩
   . cases h
 . cases h
theorem qU (h:bZ none dflt most=some r):r=dflt:=by
 simp[bZ]at h;omega
def VO (ρ:aM)(w:World):Option AV->Option Value->Prop
 | none,none=>True
 | some a,some b=>V ρ w a b
 | _,_=>False
theorem yT {isS:Bool}{cap:Nat}{lo hi mx:Option AV}{lo' hi' mx':Option Value}(hl:VO ρ w lo lo')(hh:VO ρ w hi hi')(hm:VO ρ w mx mx')
 {m h l:Nat} (h1:bZ mx cap cap=some m) (h2:bZ hi len m=some h) (h3:bZ lo 0 h=some l) (hmh:mx=none\/hi≠none) :
 (Instr.sliceBounds isS len cap lo' hi' mx').run P w = .ok (l,h,m) w:=by
 unfold Instr.sliceBounds;cases mx with
 | none=>
  cases mx' with
  | some _=>exact hm.elim
  | none=>
   obtain rfl:=qU h1;cases hi with
   | none=>
    cases hi' with
    | some _=>exact hh.elim
    | none=>
     obtain rfl:=qU h2;cases lo with
     | none=>
      cases lo' with
      | some _=>exact hl.elim
      | none=>obtain rfl:=qU h3;simp
     | some a=>
      cases lo' with
      | none=>exact hl.elim
      | some b=>simp[(lK (P:=P) hl h3).1]
   | some c=>
    cases hi' with
    | none=>exact hh.elim
    | some d=>
     have e2:=(lK (P:=P) hh h2).1;cases lo with
     | none=>
      cases lo' with
      | some _=>exact hl.elim
      | none=>obtain rfl:=qU h3;simp[e2]
     | some a=>
      cases lo' with
      | none=>exact hl.elim
      | some b=>simp[e2,(lK (P:=P) hl h3).1]
 | some x=>
  cases mx' with
  | none=>exact hm.elim
  | some y=>
   have e1:=(lK (P:=P) hm h1).1;cases hi with
   | none=>grind
   | some c=>
    cases hi' with
    | none=>exact hh.elim
    | some d=>
     have e2:=(lK (P:=P) hh h2).1;cases lo with
     | none=>
      cases lo' with
      | some _=>exact hl.elim
      | none=>obtain rfl:=qU h3;simp[e1,e2]
     | some a=>
      cases lo' with
      | none=>exact hl.elim
      | some b=>simp[e1,e2,(lK (P:=P) hl h3).1]
theorem yU (h:bZ x dflt most=some r):r<=max dflt most:=by
 unfold bZ at h;grind
theorem kH (hd:dflt<=most)(h:bZ x dflt most=some r):r<=most:=by
 have:=yU h;omega
theorem tL {most':Nat}(hm:most<=most')(h:bZ x dflt most=some r):bZ x dflt most'=some r:=by
 unfold bZ at *
 grind
theorem Oo (s:List UInt8)(l h:Nat):(cd s.toArray).extract l h=⟨((s.drop l).take (h-l)).toArray⟩:=by
 apply iB;simp
theorem Oq {b h:Nat}(hx:V ρ w (.sl b o len esz cap) (.slice a len capC))(hlh:l<h)(hhc:h<=capC)(m:Nat)(hm:m<=capC)(hhm:h<=m)(cap':Option Nat)
 (hc':∀n,cap'=some n->m-l=n):V ρ w (.sl b (o+l*esz) (h-l) esz cap') (.slice (if m=l then a else a.map (·.add (l*esz))) (h-l) (m-l)):=by
 have hne:m≠l:=by omega
 rw[if_neg hne];cases hx with
 | sl hr hl hcap hs=>
  obtain⟨cs,e,fr,h1,h2⟩:=hs;simp only[d8];rw[Addr.hJ,dr];refine .sl hr ac hc' ⟨cs,e,fr,h1,?_⟩;have e1:l*esz+(m-l)*esz=m*esz:=by rw[←g9];congr 1;omega
  have e2:m*esz<=capC*esz:=ce _ hm;omega
 | fX hr=>omega
 | fm _ _ hr hl hcap=>simp only[d8];rw[Addr.hJ];exact .fm _ _ hr ac hc'
 | fJ hr=>omega
 | fY a hr=>omega
theorem Ot {c:List AV}{h:Nat}(hx:V ρ w (.vs c len cap) (.slice a len capC))(hlh:l<=h)(m:Nat)(hhm:h<=m)(cap':Option Nat)
 (hc':∀n,cap'=some n->m-l=n) (hm:m<=capC):V ρ w (.vs ((c.drop (l*esz)).take ((h-l)*esz)) (h-l) cap') (.slice (if m=l then a else a.map (·.add (l*esz))) (h-l) (m-l)):=by
 cases hx with
 | vs c' o g hf hl hcap hcc hg=>
  by_cases hne:m=l
  . rw[if_pos hne];have e1:h-l=0:=by omega
    rw[e1];simp only[gU,List.take_zero];exact .vs c' o g aq ac hc' aq aq
  . rw[if_neg hne];simp only[d8];rw[Addr.hJ];refine .vs c' (o+l*esz) (fun i=>g (l*esz+i)) aw ac hc' (fun i hi=>?_) (fun i x hx=>?_)
    . grind
    grind
 | fa hcap=>
  have:m=0:=by omega
  subst this;have:l=0:=by omega
  subst this;have:h=0:=by omega
  subst this;simp;exact .fa aw
 | fK a hcap=>
  have:m=0:=by omega
  subst this;have:l=0:=by omega
  subst this;have:h=0:=by omega
  subst this;simp;exact .fK a aw
theorem V.empty {c:Nat}(ha:a=none->c=0)(hs:∀x,a=some x->x.spot=none\/c=0)(hc:∀n,cap=some n->c=n):V ρ w (.vs [] 0 cap) (.slice a 0 c):=by
 cases a with
 | none=>obtain rfl:=ha rfl;exact .fa aw
 | some x=>
  obtain⟨b,o,sp⟩:=x;rcases hs _ rfl with h|rfl
  . obtain rfl:sp=none:=h;exact .vs b o (fun _=>Go.undef) aq (f7 _) hc aq aq
  . exact .fK _ aw
theorem Ou (hu:P.underlying t=some .string){s:List UInt8}{lo hi:Option AV}{lo' hi':Option Value}(hl:VO ρ w lo lo')(hh:VO ρ w hi hi')
 {h l:Nat} (h2:bZ hi s.length s.length=some h) (h3:bZ lo 0 h=some l) :
 (Instr.sliceAt t (.string ⟨s.toArray⟩) lo' hi' none).run P w = .ok (.string ⟨((s.drop l).take (h-l)).toArray⟩) w:=by
 have e:(cd s.toArray).size=s.length:=by simp[c7]
 have b:=yT (P:=P) (isS:=false) (len:=s.length) (cap:=s.length) hl hh (show VO ρ w none none from trivial) (m:=s.length) (by rfl) h2 h3 (.inl rfl);simp only[Instr.sliceAt,Instr.slice,bc,bV hu,aW];simp[e,b,Oo]
theorem yV (hu:P.underlying t=some (.slice e))(hi:P.info? e=some i){a:Option Addr}{len capC:Nat}{lo hi' mx:Option AV}{lo' hi'' mx':Option Value}
 (hl:VO ρ w lo lo') (hh:VO ρ w hi' hi'') (hm:VO ρ w mx mx') {h l m:Nat} (h1:bZ mx capC capC=some m) (h2:bZ hi' len m=some h) (h3:bZ lo 0 h=some l) (hmh:mx=none\/hi'≠none) :
 (Instr.sliceAt t (.slice a len capC) lo' hi'' mx').run P w = .ok (.slice (if m=l then a else a.map (·.add (l*i.size))) (h-l) (m-l)) w:=by
 have b:=yT (P:=P) (isS:=true) hl hh hm h1 h2 h3 hmh;simp only[Instr.sliceAt,Instr.slice,bc,bV hu,aW];simp[b,gZ hi]
theorem Ov (hu:P.underlying t=some (.array n e))(hi:P.info? e=some i){a:Addr}{lo hi':Option AV}{lo' hi'':Option Value}
 (hl:VO ρ w lo lo') (hh:VO ρ w hi' hi'') {h l:Nat} (h2:bZ hi' n n=some h) (h3:bZ lo 0 h=some l) :
 (Instr.sliceAt t (.pointer (some a)) lo' hi'' none).run P w = .ok (.slice (some (if n=l then a else a.add (l*i.size))) (h-l) (n-l)) w:=by
 have b:=yT (P:=P) (isS:=false) (len:=n) (cap:=n) hl hh (show VO ρ w none none from trivial) (m:=n) (by rfl) h2 h3 (.inl rfl);simp only[Instr.sliceAt,bc,bV hu,aW];simp[b,gZ hi,Instr.sureAddr]
theorem Ow {m:Nat}(hm:m<=capC)(ha:∀x,a=some x->x.spot=none\/capC=0)(n:Nat)(c:Prop)[Decidable c]:∀x,(if c then a else a.map (·.add n))=some x->x.spot=none\/m-l=0:=by
 intro x hx;split at hx
 . grind
 . simp only[az]at hx;obtain⟨y,hy,rfl⟩:=hx;rcases ha y hy with this|h
   . refine .inl ?_;unfold Addr.add;grind
   omega
theorem kf {x:AV}{x':Value}(hx:V ρ w x x')(hk:match x with | .ab | .sl .. | .vs .. => True|_=>False) :
 ∃a len capC,x' = .slice a len capC/\len<=capC/\(∀y,a=some y->y.spot=none\/capC=0)/\(a=none->capC=0):=by
 cases hx <;> simp at hk<;>grind
theorem qV {b len':Nat}(hx:V ρ w (.sl b o len esz cap) (.slice a len' capC)):len'=len/\∀n,cap=some n->capC=n:=by
 cases hx<;>grind
theorem qW {c:List AV}{len':Nat}(hx:V ρ w (.vs c len cap) (.slice a len' capC)):len'=len/\∀n,cap=some n->capC=n:=by
 cases hx<;>grind
theorem Ox (hl:len<=capC)(hc:∀n,cap=some n->capC=n):cap.getD len<=capC:=by
 cases cap<;>grind
theorem FO (hc:∀n,cap=some n->capC=n):∀n,cap.map (· - l)=some n->capC-l=n:=by
 simp_all
theorem FP (hu:P.underlying t=some (.slice e))(hi:P.info? e=some i){b o len:Nat}{cap:Option Nat}{a:Option Addr}{len' capC:Nat}(hx:V ρ w (.sl b o len i.size cap) (.slice a len' capC))
 {lo hi' mx:Option AV} {lo' hi'' mx':Option Value} (hl:VO ρ w lo lo') (hh:VO ρ w hi' hi'') (hm:VO ρ w mx mx') {h l m:Nat}
 (h1:bZ mx capC capC=some m) (h2:bZ hi' len m=some h) (h3:bZ lo 0 h=some l) (hmh:mx=none\/hi'≠none) (hhm:h<=m) (hmc:m<=capC) (cap':Option Nat) (hc':∀n,cap'=some n->m-l=n) :
 ∃v',(Instr.sliceAt t (.slice a len' capC) lo' hi'' mx').run P w = .ok v' w/\V ρ w (if l<h then .sl b (o+l*i.size) (h-l) i.size cap' else .vs [] 0 cap') v':=by
 obtain⟨_,_,_,he,hlc,hsp,hnil⟩:=kf hx trivial;cases he;obtain⟨rfl,hcap⟩:=qV hx;refine⟨_,yV (P:=P) hu hi hl hh hm h1 h2 h3 hmh,?_⟩;have hlh:=kH (f7 _) h3;split
 . grind[Oq]
 . rename_i hlt;have e0:h-l=0:=by omega
   rw[e0];refine V.empty (fun e=>?_) (Ow hmc hsp _ _) hc';grind[Option.map_eq_none_iff]
theorem FQ (hu:P.underlying t=some (.slice e))(hi:P.info? e=some i){l0:List AV}{len:Nat}{cap:Option Nat}{a:Option Addr}{len' capC:Nat}(hx:V ρ w (.vs l0 len cap) (.slice a len' capC))
 {lo hi' mx:Option AV} {lo' hi'' mx':Option Value} (hl:VO ρ w lo lo') (hh:VO ρ w hi' hi'') (hm:VO ρ w mx mx') {h l m:Nat}
 (h1:bZ mx capC capC=some m) (h2:bZ hi' len m=some h) (h3:bZ lo 0 h=some l) (hmh:mx=none\/hi'≠none) (hhm:h<=m) (hmc:m<=capC) (cap':Option Nat) (hc':∀n,cap'=some n->m-l=n) :
 ∃v',(Instr.sliceAt t (.slice a len' capC) lo' hi'' mx').run P w = .ok v' w/\V ρ w (.vs ((l0.drop (l*i.size)).take ((h-l)*i.size)) (h-l) cap') v':=by
 obtain⟨_,_,_,he,hlc,hsp,hnil⟩:=kf hx trivial;cases he;obtain⟨rfl,hcap⟩:=qW hx;exact⟨_,yV (P:=P) hu hi hl hh hm h1 h2 h3 hmh,Ot hx (kH (f7 _) h3) m hhm _ hc' hmc⟩
theorem FU (hu:P.underlying t=some (.slice e))(hi:P.info? e=some i){x':Value}(hx:V ρ w .ab x')
 {lo hi' mx:Option AV} {lo' hi'' mx':Option Value} (hl:VO ρ w lo lo') (hh:VO ρ w hi' hi'') (hm:VO ρ w mx mx') {h l m:Nat}
 (h1:bZ mx 0 0=some m) (h2:bZ hi' 0 0=some h) (h3:bZ lo 0 0=some l) (hmh:mx=none\/hi'≠none) :
 ∃v',(Instr.sliceAt t x' lo' hi'' mx').run P w = .ok v' w/\V ρ w .ab v':=by
 cases hx;have e0:=kH (bj _) h1;obtain rfl:m=0:=by omega
 have e1:=kH (bj _) h2;obtain rfl:h=0:=by omega
 have e2:=kH (bj _) h3;obtain rfl:l=0:=by omega
 exact⟨_,yV (P:=P) (a:=none) hu hi hl hh hm h1 h2 h3 hmh,by simpa using V.ab⟩
theorem FV {d d':Nat}(hx:x≠none)(h:bZ x d most=some r):bZ x d' most=some r:=by
 cases x with
 | none=>grind
 | some a=>cases a <;> exact h
theorem FW {k:lC} 
 (hk:match k with | .str=>P.underlying t=some .string | .sl=>∃e i,P.underlying t=some (.slice e)/\P.info? e=some i/\i.size=esz | .arr n=>∃e i,P.underlying t=some (.array n e)/\P.info? e=some i/\i.size=esz)
 {x v:AV} {x':Value} (hx:V ρ w x x') {lo hi mx:Option AV} {lo' hi' mx':Option Value} (hl:VO ρ w lo lo') (hh:VO ρ w hi hi') (hm:VO ρ w mx mx') (hmh:mx=none\/hi≠none)
 (h:jD k esz x lo hi mx=some v):∃v',(Instr.sliceAt t x' lo' hi' mx').run P w = .ok v' w/\V ρ w v v':=by
 cases k with
 | str=>
  cases x <;> cases mx <;> simp only[jD,reduceCtorEq]at h;cases mx' with
  | some _=>exact hm.elim
  | none=>
   obtain rfl:=hx.jG;split at h
   . rename_i hb;split at h
     . rename_i lb;cases h;exact⟨_,Ou hk hl hh hb lb,.str _⟩
     . cases h
   . cases h
 | sl=>
  obtain⟨e,i,hu,hinf,rfl⟩:=hk;cases x <;> simp only[jD,reduceCtorEq]at h
  case ab=>
   cases mx with
   | none=>
    simp only at h;split at h
    . rename_i hb lb;cases h;exact FU hu hinf hx hl hh hm (m:=0) (by rfl) hb lb hmh
    . cases h
   | some m0=>
    simp only at h;split at h
    . rename_i mb hb lb;cases h;exact FU hu hinf hx hl hh hm mb hb lb hmh
    . cases h
  case sl b o len e' cap=>
   obtain⟨a,len',capC,rfl,hlc,hsp,hnil⟩:=kf hx trivial;obtain⟨rfl,hcap⟩:=qV hx;have hcc:=Ox hlc hcap;cases mx with
   | none=>
    simp only at h;split at h
    . rename_i he;subst he;split at h
      . rename_i h' hb;split at h
        . rename_i l' lb;have hhc:h'<=capC:=by
           have h1:=yU hb;have h2:=Nat.max_le.2 ⟨hlc,hcc⟩;omega
          have:=FP (P:=P) hu hinf hx hl hh hm (m:=capC) (by simp[bZ]) (tL hcc hb) lb hmh hhc (bj _) (cap.map (· - l')) (FO hcap)<;>grind
        . cases h
      . cases h
    . cases h
   | some m0=>
    simp only at h;split at h
    . rename_i he;subst he;split at h
      . rename_i m' mb;split at h
        . rename_i h' hb;split at h
          . rename_i l' lb;have hmc:m'<=capC:=by
             have h1:=yU mb;have h2:=Nat.max_le.2 ⟨hlc,hcc⟩;omega
            have hhi:hi≠none:=by rcases hmh with h|h;cases h;exact h
            have hhm:h'<=m':=by
             cases hi with
             | none=>grind
             | some c=>
              cases hi' with
              | none=>exact hh.elim
              | some d=>exact(lK (P:=P) hh hb).2
            have:=FP (P:=P) hu hinf hx hl hh hm (by grind[FV,tL]) hb lb hmh hhm hmc (some (m'-l')) aq;grind
          . cases h
        . cases h
      . cases h
    . cases h
  case vs l0 len cap=>
   obtain⟨a,len',capC,rfl,hlc,hsp,hnil⟩:=kf hx trivial;obtain⟨rfl,hcap⟩:=qW hx;cases mx with
   | none=>
    simp only at h;split at h
    . rename_i h' hb;split at h
      . rename_i l' lb;cases h;have hhc:h'<=len':=kH (bj _) hb;exact FQ (P:=P) hu hinf hx hl hh hm (m:=capC) (by rfl) (tL hlc hb) lb hmh ac (bj _) (cap.map (· - l')) (FO hcap)
      . cases h
    . cases h
   | some m0=>
    simp only at h;split at h
    . rename_i m' mb;split at h
      . rename_i h' hb;split at h
        . rename_i l' lb;cases h;have hmc:m'<=len':=kH (bj _) mb;have hhi:hi≠none:=by rcases hmh with h|h;cases h;exact h
          have hhm:h'<=m':=by
           cases hi with
           | none=>grind
           | some c=>
            cases hi' with
            | none=>exact hh.elim
            | some d=>exact(lK (P:=P) hh hb).2
          exact FQ (P:=P) hu hinf hx hl hh hm (by grind[FV,tL]) hb lb hmh hhm ac (some (m'-l')) aq
        . cases h
      . cases h
    . cases h
 | arr n=>cases x <;> cases mx <;> simp only[jD,reduceCtorEq]at h
end Go.Ab
namespace Go.Ab
variable {m:List Value} {t ty:TypeId} {op:BinOp} {x y:Operand} {x' y':Value}
variable {P:Program} {gl:Nat->Option AV} {ρ:aM} {w:World}
def ow (m:List Value)(off:Nat)(new:List Value):List Value:=m.take off++new++m.drop (off+new.length)
theorem VL.length {l:List AV}(h:VL ρ w l m):l.length=m.length:=h.1
theorem Oy {l new:List AV}{newm:List Value}(h:VL ρ w l m)(h':VL ρ w new newm)(off:Nat):VL ρ w (overwrite l off new) (ow m off newm):=by
 unfold overwrite ow;rw[h'.length];exact((h.take off).append h').append (h.drop _)
theorem Oz {new:List Value}{off:Nat}(h:off+new.length<=m.length):(ow m off new).length=m.length:=by
 simp[ow];omega
theorem FX {off:Nat}{x:Value}{r:List Value}(h:off+(r.length+1)<=m.length):ow m off (x::r)=ow (m.set off x) (off+1) r:=by
 apply f8;intro i;unfold ow;simp only[ib,ff,dF,dU,List.length_set,cV,fg,gc,List.getElem?_cons];grind
theorem FY (off:Nat):∀(r:List Value) (k:Nat) (m:List Value),off+k+r.length<=m.length ->
 ((r.zipIdx k).foldl (fun (cs:Array Value) (p:Value×Nat)=>cs.setIfInBounds (off+p.2) p.1) m.toArray)=(ow m (off+k) r).toArray
 | [],k,m,_=>by simp[ow]
 | x::r,k,m,h=>by
  simp only[dU]at h;simp only[List.zipIdx_cons,List.foldl_cons];rw[List.setIfInBounds_toArray,FY off r (k+1) (m.set (off+k) x) aw,FX ac];rfl
theorem V.one {x:AV}{v:Value}(h:V ρ w x v)(h1:x≠.dj)(h2:∀l,x≠.agg l):v.cells = #[v]:=by
 cases h <;> first|rfl|exact absurd rfl h1|grind
theorem pf {x:AV}{v:Value}(h:V ρ w x v){l:List AV}(hl:x.cells=some l):VL ρ w l v.cells.toList:=by
 by_cases h2:∃l0,x = .agg l0
 . obtain⟨l0,rfl⟩:=h2;simp only[AV.cells,b6.injEq]at hl;subst hl;obtain⟨m,rfl,hm⟩:=h.iY;simpa[Value.cells] using hm
 . have h1:x≠.dj:=fun e=>by subst e;simp[AV.cells]at hl
   have h2':∀l0,x≠.agg l0:=aw;have hl':l=[x]:=by
    cases x <;> simp only[AV.cells,b6.injEq,reduceCtorEq]at hl <;> first|exact hl.symm|exact absurd rfl h1|grind
   rw[hl',h.one h1 h2'];exact VL.cons h VL.nil
theorem tM {place:Nat->Option (Nat×Nat)}:∀(vs:List (Nat×Nat×AV)) (ps:List (Nat×Value)) (l:List AV) (m:List Value) (l':List AV),
 vs.length=ps.length->(∀(i:Nat) o n v p,vs[i]? = some (o,n,v)->ps[i]? = some p->place p.1=some (o,n)/\V ρ w v p.2) ->
 VL ρ w l m->kA l vs=some l'->∃m':List Value,Instr.fill place m.toArray ps=some m'.toArray/\VL ρ w l' m'
 | [],[],l,m,l',_,_,hl,h=>by simp[kA]at h;subst h;exact⟨m,rfl,hl⟩
 | [],_::_,_,_,_,hlen,_,_,_=>by grind
 | _::_,[],_,_,_,hlen,_,_,_=>by grind
 | (o,n,v)::vs,(j,y)::ps,l,m,l',hlen,hall,hl,h=>by
  obtain⟨hp,hv⟩:=hall 0 o n v (j,y) rfl rfl;simp only[kA]at h;split at h
  . rename_i c hc;split at h
    . rename_i hb;have hcv:=pf hv hc;have hsz:y.cells.size=n:=by rw[←hb.1,hcv.length];simp
      have hfold:=FY o y.cells.toList 0 m (by rw[←hcv.length,hb.1,←hl.length];omega);obtain⟨m',h1,h2⟩:=tM vs ps (overwrite l o c) (ow m o y.cells.toList) l' aw
        (fun i o' n' v' p' hi hp'=>hall (i+1) o' n' v' p' aw aw) (Oy hl hcv o) h
      refine⟨m',?_,h2⟩;have hp':place j=some (o,n):=hp;simp only[Instr.fill,hp'];have hcond:¬((decide (y.cells.size≠n) || decide (o+y.cells.size > m.toArray.size))=true):=by
       have h1:m.toArray.size=m.length:=by simp
       have h2:=hl.length;rw[h1];simp;omega
      rw[if_neg hcond];rw[←Array.foldl_toList,Array.toList_zipIdx];grind
    . cases h
  . cases h
theorem tN {C:Cx}{s:St}{a:Act}(r:Rel C ρ s a w){place:Nat->Option (Nat×Nat)}:∀{ps:List (Nat×Operand)} {cps:List (Nat×Nat×aO)},kc C place ps=some cps ->
 ∀{vs:List (Nat×Nat×AV)},s.parts cps=some vs->vs.length=(ps.map fun p=>(p.1,a.eval p.2)).length /\
  ∀(i:Nat) o n v p,vs[i]? = some (o,n,v)->(ps.map fun p=>(p.1,a.eval p.2))[i]? = some p->place p.1=some (o,n)/\V ρ w v p.2
 | [],cps,hc,vs,hv=>by
  simp[kc]at hc;subst hc;simp[St.parts]at hv;grind
 | (j,x)::ps,cps,hc,vs,hv=>by
  simp only[kc]at hc;split at hc
  . rename_i o n y l h1 h2 h3;cases hc;simp only[St.parts]at hv;split at hv
    . rename_i v hv1;split at hv
      . rename_i vs' hv2;cases hv;obtain⟨e1,e2⟩:=tN r h3 hv2;refine⟨aw,fun i o' n' v' p' hi hp=>?_⟩;cases i with
        | zero=>simp at hi hp;obtain⟨rfl,rfl,rfl⟩:=hi;subst hp;exact⟨h1,r.ah h2 hv1⟩
        | succ i=>grind
      grind
    grind
  grind
theorem tO {z:AV}(h:zeroOf P t=some z):∃v,(zeroValue t).run P w = .ok v w/\V ρ w z v:=by
 unfold zeroOf at h;split at h
 . rename_i i hi;split at h
   . rename_i v hv;exact⟨v,by simp[zeroValue,tK hi,hv],qS 5 v z h⟩
   . cases h
 . cases h
theorem run_places:∀(fs:List Field) (pl:List (Nat×Nat)),oZ P fs=some pl ->
 (fs.mapM fun f=>do pure (f.offset,←sizeOf f.type):Sem (List (Nat×Nat))).run P w = .ok pl w
 | [],pl,h=>by simp[oZ]at h;subst h;simp
 | f::fs,pl,h=>by
  simp only[oZ]at h;split at h
  . rename_i i l h1 h2;cases h;simp only[List.mapM_cons,bc,gZ h1,aW,ci];rw[run_places fs l h2];simp
  . cases h
theorem OA {C:Cx}{s:St}{a:Act}(r:Rel C ρ s a w){t:TypeId}{z:AV}{zc:List AV}{fs:Array Field}{pl:List (Nat×Nat)}(hz:zeroOf C.P t=some z)(hzc:z.cells=some zc)(hu:C.P.underlying t=some (.struct fs))
 (hpl:oZ C.P fs.toList=some pl) {ps:Array (Nat×Operand)} {cps:List (Nat×Nat×aO)} (hc:kc C (pl[·]?) ps.toList=some cps) {vs:List (Nat×Nat×AV)} (hv:s.parts cps=some vs)
 {l:List AV} (hf:kA zc vs=some l):∃v',(Instr.build t (ps.map fun p=>(p.1,a.eval p.2))).run C.P w = .ok v' w/\V ρ w (.agg l) v':=by
 obtain⟨zv,hz1,hz2⟩:=tO (P:=C.P) (ρ:=ρ) (w:=w) hz;have hzl:=pf hz2 hzc;obtain⟨e1,e2⟩:=tN r hc hv;obtain⟨m',h1,h2⟩:=tM vs _ zc _ l e1 e2 hzl hf;refine⟨.agg m'.toArray,?_,V.qR h2⟩;have hpl':=run_places (w:=w) fs.toList pl hpl;have hm:(fs.mapM fun f=>do pure (f.offset,←sizeOf f.type):Sem (Array (Nat×Nat))).run C.P w = .ok pl.toArray w:=by
  rw[Array.mapM_eq_mapM_toList,Sem.run_map,hpl'];rfl
 simp only[Instr.build,bc,hz1,aW,bV hu,hm];simp_all
theorem OB {C:Cx}{s:St}{a:Act}(r:Rel C ρ s a w){t e:TypeId}{n:Nat}{i:TypeInfo}{z:AV}{zc:List AV}(hz:zeroOf C.P t=some z)(hzc:z.cells=some zc)(hu:C.P.underlying t=some (.array n e))
 (hi:C.P.info? e=some i) {ps:Array (Nat×Operand)} {cps:List (Nat×Nat×aO)} (hc:kc C (fun j=>some (j*i.size,i.size)) ps.toList=some cps) {vs:List (Nat×Nat×AV)} (hv:s.parts cps=some vs)
 {l:List AV} (hf:kA zc vs=some l):∃v',(Instr.build t (ps.map fun p=>(p.1,a.eval p.2))).run C.P w = .ok v' w/\V ρ w (.agg l) v':=by
 obtain⟨zv,hz1,hz2⟩:=tO (P:=C.P) (ρ:=ρ) (w:=w) hz;have hzl:=pf hz2 hzc;obtain⟨e1,e2⟩:=tN r hc hv;obtain⟨m',h1,h2⟩:=tM (place:=fun j=>some (j*i.size,i.size)) vs _ zc _ l e1 e2 hzl hf;refine⟨.agg m'.toArray,?_,V.qR h2⟩;simp only[Instr.build,bc,hz1,aW,bV hu,gZ hi];simp_all
theorem yW (mx:Bool):∀(l:List AV) (m:List Value) (k:IntKind) (a:Int) (v:AV),VL ρ w l m->mQ mx (.int k a) l=some v ->
 ∃v',(m.foldlM (if mx then Builtin.max2 else Builtin.min2) (.int k a)).run P w = .ok v' w/\V ρ w v v'
 | [],m,k,a,v,hl,h=>by
  rw[hl.jF];simp[mQ]at h;subst h;exact⟨_,rfl,.int _ _⟩
 | x::l,m,k,a,v,hl,h=>by
  obtain⟨y,m',rfl,hy,hl'⟩:=hl.cons_inv;unfold mQ at h;split at h
  . grind
  . rename_i heq1 heq2;cases heq1;cases heq2;obtain rfl:=hy.gD;split at h
    . rename_i hk;subst hk;obtain⟨v',h1,h2⟩:=yW mx l m' _ _ v hl' h;refine⟨v',?_,h2⟩;cases mx
      . simp only[i8,bc,b5,if_false,Builtin.min2,ci,aW]at h1 ⊢;exact h1
      . simp only[i8,bc,if_true,Builtin.max2,ci,aW]at h1 ⊢;exact h1
    . cases h
  . cases h
variable {C:Cx} {s:St} {a:Act}
theorem mV (r:Rel C ρ s a w){x:Option Operand}{y:Option aO}(hc:lF C x=some y){v:Option AV}(hv:s.dY y=some v):VO ρ w v (x.map a.eval):=by
 cases x with
 | none=>simp[lF]at hc;subst hc;simp[St.dY]at hv;subst hv;trivial
 | some x0=>
  simp only[lF,az]at hc;obtain⟨y0,h1,rfl⟩:=hc;simp only[St.dY,az]at hv;obtain⟨u,h2,rfl⟩:=hv;exact r.ah h1 h2
theorem qX (h1:¬(x' = .nilIface/\y' = .nilIface))(h2:∀a b,¬(x' = .agg a/\y' = .agg b)):(eqGuard op t x y x' y').run P w = .ok () w:=by
 have key:∀op:BinOp,(op = .eql\/op = .neq)->(eqGuard op t x y x' y').run P w = .ok () w:=by
  intro op hop;unfold eqGuard;rcases hop with rfl|rfl;all_goals
   simp only[d7,b5,if_false];split
   . exact absurd ⟨rfl,rfl⟩ h1
   . exact absurd ⟨rfl,rfl⟩ (h2 _ _)
   . rfl
 cases op
 case eql=>grind
 case neq=>grind
 all_goals rfl
theorem OC {ms:Array (String×TypeId)}(hu:P.underlying t=some (.interface ms))(hg:((!(kE x || kE y)) && !ms.isEmpty)=false) :
 (eqGuard op t x y .nilIface .nilIface).run P w = .ok () w:=by
 obtain⟨k,hk⟩:∃k,Op.maxDepth=k+1:=⟨9999,rfl⟩;have h3:(Op.eqGuardIn Op.maxDepth t .nilIface .nilIface).run P w = .ok (!ms.isEmpty) w:=by
  rw[hk];simp only[Op.eqGuardIn,bc,bV hu,aW];rfl
 have key:∀op:BinOp,(op = .eql\/op = .neq)->(eqGuard op t x y .nilIface .nilIface).run P w = .ok () w:=by
  intro op hop;unfold eqGuard;rcases hop with rfl|rfl;all_goals
   simp only[d7,b5,if_false];cases x <;> cases y <;> simp only[kE,Bool.or_self,Bool.or_true,Bool.or_false,d7,Bool.not_false,Bool.true_and,Bool.false_and,if_true,if_false,b5]at hg ⊢;all_goals first
    | rfl
    | (simp only[bc,h3,aW,hg,b5,if_false];rfl)
 cases op
 case eql=>grind
 case neq=>grind
 all_goals rfl
theorem OD {f n:Nat}{e:gK}{xa ya:AV}{r:Bool} 
 (hst:yK P t=false)
 (he:iu P f (!(kE x || kE y)) t=some e) (hx:V ρ w xa x') (hy:V ρ w ya y') (hr:dG (n+1) e xa ya=some r):(eqGuard op t x y x' y').run P w = .ok () w:=by
 cases f with
 | zero=>simp[iu]at he
 | succ f=>
 simp only[iu]at he;cases hu:P.underlying t with
 | none=>grind
 | some u=>
  simp only[yK,hu]at he hst;cases u <;> simp only[b6.injEq,reduceCtorEq]at he
  case struct fs=>
   split at he
   . cases he
   . simp only[az]at he;obtain⟨l,hl,rfl⟩:=he;cases xa <;> cases ya <;> simp only[dG,reduceCtorEq]at hr;obtain⟨xm,rfl,_⟩:=hx.iY;obtain⟨ym,rfl,_⟩:=hy.iY;exact run_eqGuard_agg w op t x y _ _ hst
  case array m e'=>
   split at he
   . cases he;cases xa <;> cases ya <;> simp only[dG,reduceCtorEq]at hr;obtain⟨xm,rfl,_⟩:=hx.iY;obtain⟨ym,rfl,_⟩:=hy.iY;exact run_eqGuard_agg w op t x y _ _ hst
   grind
  case interface ms=>
   subst he;cases xa <;> cases ya <;> simp only[dG,reduceCtorEq]at hr
   . cases hx;cases hy;exact qX aq aq
   . cases hx;cases hy;exact qX aq aq
   . split at hr
     . cases hr
     . rename_i hg;cases hx;cases hy;exact OC hu aw
  all_goals
   subst he;refine qX ?_ ?_
   . rintro⟨rfl,rfl⟩;cases hx <;> cases hy <;> simp[dG,jk]at hr
   . rintro a b ⟨rfl,rfl⟩;cases hx <;> cases hy <;> simp[dG,jk]at hr
def pg:Value->Bool
 | .int _ _ | .float _ _ | .complex _ _ _ | .string _=>true
 | _=>false
theorem binOp_eql (h:pg x'=false):binOp .eql t x' y'=(do pure (.bool (←Op.equal t x' y'))):=by
 cases x' <;> simp only[pg,reduceCtorEq]at h <;> rfl
theorem binOp_neq (h:pg x'=false):binOp .neq t x' y'=(do pure (.bool (!(←Op.equal t x' y')))):=by
 cases x' <;> simp only[pg,reduceCtorEq]at h <;> rfl
theorem OE {d n:Nat}{g:Bool}{e:gK}(hs:tC P t=false)(he:iu P d g t=some e){xa ya:AV}{x':Value}(hx:V ρ w xa x'){b:Bool}(hb:dG (n+1) e xa ya=some b):pg x'=false:=by
 cases d with
 | zero=>simp[iu]at he
 | succ d=>
 simp only[iu]at he;cases hu:P.underlying t with
 | none=>grind
 | some u=>
  simp only[hu]at he;simp only[tC,hu]at hs;cases u <;> simp only[b6.injEq,reduceCtorEq]at he hs
  case struct fs=>
   split at he
   . cases he
   . simp only[az]at he;obtain⟨l,hl,rfl⟩:=he;cases xa <;> cases ya <;> simp only[dG,reduceCtorEq]at hb;obtain⟨xm,rfl,_⟩:=hx.iY;rfl
  case array m e'=>
   split at he
   . cases he;cases xa <;> cases ya <;> simp only[dG,reduceCtorEq]at hb;obtain⟨xm,rfl,_⟩:=hx.iY;rfl
   grind
  all_goals
   subst he;cases hx <;> first|rfl|(cases ya <;> simp[dG,jk]at hb)
theorem hZ {e:Operand->Value}{dst:Option Tmp}{b:Builtin}{args:Array Operand}{ats:Array TypeId}{pos:String}{af:Array Edge}{gd:Option (Nat×Bool)} :
 (execOp e ⟨dst,.call ⟨.builtin b,args,ats⟩,ty,pos,af,gd⟩).run P w=(builtin b ats ty (args.map fun | .const _=>true|_=>false) (args.map e)).run P w:=by
 rfl
theorem ix {α:Type}{x:Array α}{l:List α}(h:x.toList=l):x=l.toArray:=by
 rw[←h]
theorem ph {x:List Operand}{y:aO}(h:ir C x=some [y]):∃x0,x=[x0]/\gB C x0=some y:=by
 match x,h with
 | [],h=>simp[ir]at h
 | [x0],h=>
  simp only[ir]at h;grind
 | x0::x1::r,h=>
  simp only[ir]at h;grind
theorem yX {x:List Operand}{y z:aO}(h:ir C x=some [y,z]):∃x0 x1,x=[x0,x1]/\gB C x0=some y/\gB C x1=some z:=by
 match x,h with
 | [],h=>simp[ir]at h
 | x0::r,h=>
  simp only[ir]at h;split at h
  . rename_i a l h1 h2;cases h;obtain⟨x1,rfl,h3⟩:=ph h2;grind
  . cases h
def FZ (P:Program)(t:TypeId):lC->Prop
 | .str=>P.underlying t=some .string
 | .sl=>∃e,P.underlying t=some (.slice e)
 | .arr n=>∃e,P.underlying t=some (.array n e)
def qY:lC->AV->Option AV
 | .arr n,_=>some (.int .i64 n)
 | k,x=>tA k x
theorem OF {k:lC}(hk:FZ P t k){x v:AV}{x':Value}(hx:V ρ w x x')
 (h:qY k x=some v):∃v',(Builtin.len_ #[t] ty #[x']).run P w = .ok v' w/\V ρ w v v':=by
 cases k with
 | arr n=>
  obtain⟨e,hu⟩:=hk;simp only[qY,b6.injEq]at h;subst h;refine⟨goInt n,?_,.int _ _⟩;simp[Builtin.len_,bV hu]
 | str=>
  cases x <;> simp only[qY,tA,reduceCtorEq,b6.injEq]at h;subst h;obtain rfl:=hx.jG;refine⟨.int .i64 _,?_,.int _ _⟩;have hk':P.underlying t=some .string:=hk;simp only[Builtin.len_,List.getElem?_toArray,List.getElem?_cons_zero,bc,bV hk',aW];rfl
 | sl=>
  obtain⟨e,hu⟩:=hk;have hnil:∀l,(x = .ab/\l=0)\/(∃b o es c,x = .sl b o l es c)\/(∃q c,x = .vs q l c)->∃v',(Builtin.len_ #[t] ty #[x']).run P w = .ok v' w/\V ρ w (.int .i64 l) v':=by
   intro l hl;have:∃a c,x' = .slice a l c:=by
    rcases hl with ⟨rfl,rfl⟩|⟨b,o,es,c,rfl⟩|⟨q,c,rfl⟩
    . cases hx;simp
    . obtain⟨a,l',c',rfl,_⟩:=kf hx trivial;obtain⟨rfl,_⟩:=qV hx;simp
    . obtain⟨a,l',c',rfl,_⟩:=kf hx trivial;obtain⟨rfl,_⟩:=qW hx;simp
   obtain⟨a,c,rfl⟩:=this;exact⟨goInt l,by simp[Builtin.len_,bV hu],.int _ _⟩
  cases x <;> simp only[qY,tA,reduceCtorEq,b6.injEq]at h <;> subst h
  . grind
  . simp_all
  simp_all
theorem OG {e:TypeId}(hu:P.underlying t=some (.slice e)){x:AV}{x':Value}(hx:V ρ w x x'){n:Nat}(h:x = .ab/\n=0\/(∃b o l es,x = .sl b o l es (some n))\/∃q l,x = .vs q l (some n)) :
 (Builtin.cap_ #[t] ty #[x']).run P w = .ok (.int .i64 n) w:=by
 have:∃a l,x' = .slice a l n:=by
  rcases h with ⟨rfl,rfl⟩|⟨b,o,l,es,rfl⟩|⟨q,l,rfl⟩
  . cases hx;simp
  . obtain⟨a,l',c',rfl,_⟩:=kf hx trivial;obtain⟨rfl,hc⟩:=qV hx;grind
  . obtain⟨a,l',c',rfl,_⟩:=kf hx trivial;obtain⟨rfl,hc⟩:=qW hx;grind
 obtain⟨a,l,rfl⟩:=this;simp[Builtin.cap_,bV hu,goInt]
theorem OH (r:Rel C ρ s a w){o:Oper}{io:bm}(hc:iW C o=some io)(hh:io.bM=false){v:AV}(hv:bk s io=some v) :
 ∃v',(execOp a.eval o).run C.P w = .ok (.value v') w/\V ρ w v v':=by
 obtain⟨dst,op,ty,pos,af,gd⟩:=o;cases op <;> simp only[iW]at hc
 case move x=>
  simp only[az]at hc;obtain⟨y,h1,rfl⟩:=hc;exact⟨_,by rfl,r.ah h1 hv⟩
 case assign x=>
  simp only[az]at hc;obtain⟨y,h1,rfl⟩:=hc;exact⟨_,by rfl,r.ah h1 hv⟩
 case pick c x y=>
  split at hc
  . rename_i c' x' y' h1 h2 h3;cases hc;simp only[bk]at hv;split at hv
    . rename_i t av bv hc' ha' hb';have e1:=(r.ah h1 hc').lJ;cases hv;refine⟨_,by simp[execOp,e1,asBool] <;> rfl,?_⟩;cases t
      . exact r.ah h3 hb'
      . exact r.ah h2 ha'
    . rename_i t av hc' ha' hb';have e1:=(r.ah h1 hc').lJ;split at hv
      . rename_i ht;subst ht;cases hv;exact⟨_,by simp[execOp,e1,asBool] <;> rfl,r.ah h2 ha'⟩
      grind
    . rename_i t bv hc' ha' hb';have e1:=(r.ah h1 hc').lJ;split at hv
      . cases hv
      . rename_i ht;obtain rfl:t=false:=by grind
        cases hv;exact⟨_,by simp[execOp,e1,asBool] <;> rfl,r.ah h3 hb'⟩
    grind
  grind
 case build t ps=>
  split at hc
  . rename_i z hz;split at hc
    . rename_i zc fs hzc hu;split at hc
      . rename_i pl hpl;simp only[az]at hc;obtain⟨cps,h1,rfl⟩:=hc;simp only[bk]at hv;split at hv
        . rename_i vs hvs;simp only[az]at hv;obtain⟨l,hl,rfl⟩:=hv;obtain⟨v',h2,h3⟩:=OA r hz hzc hu hpl h1 hvs hl;exact⟨v',by simp[execOp,h2],h3⟩
        grind
      grind
    . rename_i zc n e hzc hu;split at hc
      . rename_i i hi;simp only[az]at hc;obtain⟨cps,h1,rfl⟩:=hc;simp only[bk]at hv;split at hv
        . rename_i vs hvs;simp only[az]at hv;obtain⟨l,hl,rfl⟩:=hv;obtain⟨v',h2,h3⟩:=OB r hz hzc hu hi h1 hvs hl;exact⟨v',by simp[execOp,h2],h3⟩
        grind
      grind
    grind
  grind
 case nilCheck x=>
  simp only[az]at hc;obtain⟨y,h1,rfl⟩:=hc;simp only[bk,be]at hv;obtain⟨u,h2,h3⟩:=hv;exact Oh (r.ah h1 h2) h3 _ _ _ _ _ _ _ rfl
 case binOp op t x y u=>
  split at hc
  . rename_i x' y' h1 h2;split at hc
    . rename_i hcmp;split at hc
      . cases hc;simp[bm.bM]at hh
      split at hc
      . cases hc
      . rename_i hst;simp only[az]at hc;obtain⟨e,he,rfl⟩:=hc;simp only[bk]at hv;split at hv
        . rename_i xa ya hx hy;split at hv
          . rename_i b hb;cases hv;have gx:=r.ah h1 hx;have gy:=r.ah h2 hy;have hg:=OD (w:=w) (op:=op) (n:=99) aw he gx gy hb;have hE:=Of 100 20 _ t e he xa ya _ _ b gx gy hb 10000 ac;have hE':(Op.equal t (a.eval x) (a.eval y)).run C.P w = .ok b w:=hE;have hns:tC C.P t=false:=by
             simp only[gF,Bool.not_eq_true']at hcmp;exact hcmp.2
            have hcm:qQ op=true:=by
             simp only[gF]at hcmp;exact hcmp.1
            have hnum:=OE hns he gx hb;refine⟨_,?_,.bool _⟩;cases op <;> simp only[qQ,b5]at hcm
            . simp[execOp,hg,binOp_eql hnum,hE']
            . simp[execOp,hg,binOp_neq hnum,hE']
          grind
        grind
    . rename_i hcmp;cases hc;simp only[bk]at hv;split at hv
      . rename_i xa ya hx hy;have gx:=r.ah h1 hx;have gy:=r.ah h2 hy;obtain⟨v',h3,h4⟩:=NU (P:=C.P) gx gy hv t;have hg:(eqGuard op t x y (a.eval x) (a.eval y)).run C.P w = .ok () w:=by
         refine qX ?_ ?_
         . rintro⟨e1,e2⟩;rw[e1]at gx;rw[e2]at gy;cases gx <;> cases gy <;> simp[dy]at hv
         . rintro p q ⟨e1,e2⟩;rw[e1]at gx;rw[e2]at gy;cases gx <;> cases gy <;> simp[dy]at hv
        exact⟨v',by simp[execOp,hg,h3],h4⟩
      grind
  grind
 case unOp op t x=>
  simp only[az]at hc;obtain⟨y,h1,rfl⟩:=hc;simp only[bk,be]at hv;obtain⟨u,h2,h3⟩:=hv;obtain⟨v',h4,h5⟩:=NV (P:=C.P) (r.ah h1 h2) h3;exact⟨v',by simp[execOp,h4],h5⟩
 case convert src dst x=>
  split at hc <;> try (cases hc;done)
  . rename_i k' k y hs hd h1;cases hc;simp only[bk,be]at hv;obtain⟨u,h2,h3⟩:=hv;obtain⟨v',h4,h5⟩:=Og hs hd (r.ah h1 h2) h3;exact⟨v',by simp[execOp,h4],h5⟩
  . rename_i k y hs hd h1;cases hc;simp only[bk]at hv;split at hv
    . rename_i k0 n h2;cases hv;have e:=(r.ah h1 h2).gD;refine⟨.string (Utf8.encode n),?_,V.yM _⟩;simp[execOp,e,convert,bV hs,bV hd,Conv.intToString]
    grind
  . rename_i y hs hd h1;cases hc;simp only[bk]at hv;split at hv
    . rename_i st h2;cases hv;have e:=(r.ah h1 h2).jG;refine⟨_,?_,V.str _⟩;simp[execOp,e,convert,bV hs,bV hd]
    grind
  . split at hc
    . split at hc
      . cases hc
      . cases hc;simp[bm.bM]at hh
    grind
  . split at hc
    . cases hc;simp[bm.bM]at hh
    grind
  . split at hc
    . split at hc
      . cases hc
      . cases hc;simp[bm.bM]at hh
    grind
  . split at hc
    . split at hc
      . cases hc;simp[bm.bM]at hh
      grind
    grind
 case makeInterface t x=>
  split at hc
  . cases hc
  . rename_i u hni hu;simp only[az]at hc;obtain⟨y,h1,rfl⟩:=hc;simp only[bk,az]at hv;obtain⟨xa,h2,rfl⟩:=hv;refine⟨_,?_,.iface (r.ah h1 h2)⟩;cases u <;> first|(exact absurd rfl (hni _))|simp[execOp,Instr.makeInterface,bV hu]
  grind
 case typeAssert x xt t ok=>
  split at hc
  . cases hc
  . rename_i u hni hu;split at hc
    . rename_i x' z h1 h2;cases hc;obtain⟨zv,hz1,hz2⟩:=tO (P:=C.P) (w:=w) (ρ:=ρ) h2;simp only[bk]at hv;split at hv
      . rename_i u0 va h3;have e0:=r.ah h1 h3;generalize hxv:a.eval x=xv at e0;cases e0 with
        | @iface _ _ v' hin=>
         split at hv
         . rename_i e;subst e;cases ok
           . cases hv;exact⟨v',by cases u <;> first|(exact absurd rfl (hni _))|simp[execOp,hxv,Instr.typeAssert,bV hu],hin⟩
           . cases hv;exact⟨.tuple #[v',.bool true],by cases u <;> first|(exact absurd rfl (hni _))|simp[execOp,hxv,Instr.typeAssert,bV hu],.iG (.cons hin (.cons (.bool _) .nil))⟩
         . rename_i e;cases ok
           . cases hv
           . cases hv;exact⟨.tuple #[zv,.bool false],by cases u <;> first|(exact absurd rfl (hni _))|simp[execOp,hxv,Instr.typeAssert,bV hu,e,hz1],.iG (.cons hz2 (.cons (.bool _) .nil))⟩
      . rename_i h3;have e0:=r.ah h1 h3;generalize hxv:a.eval x=xv at e0;cases e0 with
        | dN=>
         cases ok
         . cases hv
         . cases hv;exact⟨.tuple #[zv,.bool false],by cases u <;> first|(exact absurd rfl (hni _))|simp[execOp,hxv,Instr.typeAssert,bV hu,hz1],.iG (.cons hz2 (.cons (.bool _) .nil))⟩
      grind
    grind
  grind
 case makeFunc f fi ca=>
  split at hc
  . cases hc
  . rename_i hy;split at hc
    . rename_i fi' ca' h1 h2;cases hc;simp only[bk]at hv;split at hv
      . rename_i va vb h3 h4;cases hv;have g1:=r.cS h1 h3;have g2:=r.cS h2 h4;refine⟨_,by simp[execOp,Instr.makeFunc] <;> rfl,?_⟩;have e1:fi.map a.eval=(fi.toList.map a.eval).toArray:=by rw[←dh,c8]
        have e2:ca.map a.eval=(ca.toList.map a.eval).toArray:=by rw[←dh,c8]
        rw[e1,e2];refine .fn (fun l e=>hy (by subst e;rfl)) g1.1 g2.1 g1.2 g2.2
      grind
    grind
 case slice t x lo hi mx=>
  split at hc <;> try (cases hc;done)
  . rename_i x' l h hu h1 h2 h3 h4;cases hc;simp only[bk]at hv;split at hv
    . rename_i xa hx;split at hv
      . rename_i la ha ma hl hh' hm;split at hv
        . rename_i hmh;have e4:mx=none:=by cases mx with
            | none=>rfl
            | some m=>simp[lF]at h4
          subst e4;simp only[St.dY,b6.injEq]at hm;subst hm;obtain⟨v',h5,h6⟩:=FW (P:=C.P) (t:=t) (k:=.str) (esz:=1) hu (r.ah h1 hx) (mV r h2 hl) (mV r h3 hh') (mx':=none) (show VO ρ w none none from trivial) (.inl rfl) hv;exact⟨v',by simp[execOp,h5],h6⟩
        grind
      grind
    grind
  . rename_i e x' l h m hu h1 h2 h3 h4;split at hc
    . rename_i i hi';cases hc;simp only[bk]at hv;split at hv
      . rename_i xa hx;split at hv
        . rename_i la ha ma hl hh' hm;split at hv
          . rename_i hmh;obtain⟨v',h5,h6⟩:=FW (P:=C.P) (t:=t) (k:=.sl) (esz:=i.size) ⟨e,i,hu,hi',rfl⟩ (r.ah h1 hx) (mV r h2 hl) (mV r h3 hh') (mV r h4 hm) (by cases ma <;> cases ha <;> simp at hmh ⊢) hv;exact⟨v',by simp[execOp,h5],h6⟩
          grind
        grind
      grind
    grind
  . split at hc
    . cases hc;simp[bm.bM]at hh
    grind
 case fieldAddr t x f=>
  split at hc <;> try (cases hc;done)
  rename_i fs x' hu h1;split at hc <;> try (cases hc;done)
  rename_i fd hf;split at hc <;> try (cases hc;done)
  rename_i i hi';split at hc
  . cases hc
  . rename_i h0;cases hc;simp only[bk,be]at hv;obtain⟨u,h2,h3⟩:=hv;obtain⟨v',h4,h5⟩:=Oj hu hf hi' h0 (r.ah h1 h2) h3;exact⟨v',by simp[execOp,h4],h5⟩
 case field t x f=>
  split at hc <;> try (cases hc;done)
  rename_i fs x' hu h1;split at hc <;> try (cases hc;done)
  rename_i fd hf;split at hc <;> try (cases hc;done)
  rename_i n ag hs;cases hc;simp only[bk]at hv;split at hv
  . rename_i l hx;obtain⟨v',h4,h5⟩:=On hu hf hs (r.ah h1 hx) hv;exact⟨v',by simp[execOp,h4],h5⟩
  grind
 case indexAddr t x i=>
  split at hc <;> try (cases hc;done)
  . rename_i n e x' i' hu h1 h2;split at hc <;> try (cases hc;done)
    rename_i inf hinf;cases hc;simp only[bk]at hv;split at hv
    . rename_i xa ia hx hi';obtain⟨v',h4,h5⟩:=FN (P:=C.P) (t:=t) (arr:=some n) hu hinf (r.ah h1 hx) (r.ah h2 hi') hv;exact⟨v',by simp[execOp,h4],h5⟩
    grind
  . rename_i e x' i' hu h1 h2;split at hc <;> try (cases hc;done)
    rename_i inf hinf;cases hc;simp only[bk]at hv;split at hv
    . rename_i xa ia hx hi';obtain⟨v',h4,h5⟩:=FN (P:=C.P) (t:=t) (arr:=none) hu hinf (r.ah h1 hx) (r.ah h2 hi') hv;exact⟨v',by simp[execOp,h4],h5⟩
    grind
 case index t x i=>
  split at hc <;> try (cases hc;done)
  . rename_i x' i' hu h1 h2;cases hc;simp only[bk]at hv;split at hv
    . rename_i xa ia hx hi';obtain⟨v',h4,h5⟩:=Ol hu (r.ah h1 hx) (r.ah h2 hi') hv;exact⟨v',by simp[execOp,h4],h5⟩
    grind
  . rename_i n e x' i' hu h1 h2;split at hc <;> try (cases hc;done)
    rename_i sz ag hs;cases hc;simp only[bk]at hv;split at hv
    . rename_i l k m hx hi';split at hv
      . rename_i hb;have ei:=(r.ah h2 hi').gD;obtain⟨v',h4,h5⟩:=Om hu hs (r.ah h1 hx) (k:=k) hb.1 hb.2 hv;exact⟨v',by simp[execOp,ei,h4],h5⟩
      grind
    grind
 case extract x i=>
  simp only[az]at hc;obtain⟨y,h1,rfl⟩:=hc;simp only[bk]at hv;split at hv
  . rename_i l hx;obtain⟨v',h4,h5⟩:=NY (P:=C.P) (r.ah h1 hx) hv;exact⟨v',by simp[execOp,h4],h5⟩
  grind
 case call c=>
  obtain⟨callee,args,ats⟩:=c;cases callee with
  | value f=>
   simp only at hc;split at hc
   . cases hc;simp[bm.bM]at hh
   grind
  | invoke x name=>
   simp only at hc;split at hc
   . cases hc;simp[bm.bM]at hh
   grind
  | builtin b=>
   simp only at hc;split at hc <;> try (cases hc;done)
   . -- len
     rename_i t x h1 h2;obtain rfl:=ix h1;obtain⟨x0,hx0,h3⟩:=ph h2;obtain rfl:=ix hx0;have fin:∀k,FZ C.P t k->io = .len k x ->
      ∃v',(execOp a.eval ⟨dst,.call ⟨.builtin .len,[x0].toArray,[t].toArray⟩,ty,pos,af,gd⟩).run C.P w = .ok (.value v') w/\V ρ w v v':=by
      rintro k hk rfl;simp only[bk]at hv;have:∃xa,V ρ w xa (a.eval x0)/\qY k xa=some v:=by
       cases k with
       | arr n=>exact⟨.dj,.dj _,hv⟩
       | str=>simp only[be]at hv;obtain⟨u,h4,h5⟩:=hv;exact⟨u,r.ah h3 h4,h5⟩
       | sl=>simp only[be]at hv;obtain⟨u,h4,h5⟩:=hv;exact⟨u,r.ah h3 h4,h5⟩
      obtain⟨xa,h4,h5⟩:=this;obtain⟨v',h6,h7⟩:=OF (ty:=ty) hk h4 h5;refine⟨v',?_,h7⟩;rw[hZ];simp[builtin,h6]
     split at hc
     . rename_i n e hu;cases hc;exact fin (.arr n) ⟨e,hu⟩ rfl
     . cases hc;simp[bm.bM]at hh
     . rename_i hu;cases hc;exact fin .str hu rfl
     . rename_i e hu;cases hc;exact fin .sl ⟨e,hu⟩ rfl
     grind
   . -- cap
     rename_i t x h1 h2;obtain rfl:=ix h1;obtain⟨x0,hx0,h3⟩:=ph h2;obtain rfl:=ix hx0;split at hc <;> try (cases hc;done)
     rename_i e hu;cases hc;have fin:∀n,(∃xa,V ρ w xa (a.eval x0)/\(xa = .ab/\n=0\/(∃b o l es,xa = .sl b o l es (some n))\/∃q l,xa = .vs q l (some n)))->v = .int .i64 n ->
      ∃v',(execOp a.eval ⟨dst,.call ⟨.builtin .cap,[x0].toArray,[t].toArray⟩,ty,pos,af,gd⟩).run C.P w = .ok (.value v') w/\V ρ w v v':=by
      rintro n ⟨xa,h4,h5⟩ rfl;have h6:=OG (ty:=ty) hu h4 h5;refine⟨_,?_,.int _ _⟩;rw[hZ];simp[builtin,h6]
     simp only[bk]at hv;split at hv <;> try (cases hv;done)
     . rename_i h4;cases hv;exact fin 0 ⟨_,r.ah h3 h4,aq⟩ rfl
     . rename_i h4;cases hv;exact fin _ ⟨_,r.ah h3 h4,aq⟩ rfl
     . rename_i h4;cases hv;exact fin _ ⟨_,r.ah h3 h4,aq⟩ rfl
   . -- append
     split at hc
     . split at hc
       . cases hc;simp[bm.bM]at hh
       grind
     . split at hc
       . cases hc;simp[bm.bM]at hh
       grind
     grind
   . -- copy
     split at hc
     . split at hc
       . cases hc;simp[bm.bM]at hh
       grind
     grind
   . -- clear
     split at hc
     . split at hc
       . split at hc
         . cases hc;simp[bm.bM]at hh
         grind
       grind
     grind
   . -- unsafe.SliceData
     rename_i t x h1 h2;obtain rfl:=ix h1;obtain⟨x0,hx0,h3⟩:=ph h2;obtain rfl:=ix hx0;split at hc <;> try (cases hc;done)
     rename_i e hu;cases hc;simp only[bk]at hv;split at hv <;> try (cases hv;done)
     . rename_i h4;cases hv;have e0:=r.ah h3 h4;generalize hxv:a.eval x0=xv at e0;cases e0;refine⟨.pointer none,?_,.eK⟩;rw[hZ];simp[builtin,hxv,Lib.run_unsafeSliceData_nil]
     . rename_i b o len es cap h4;cases hv;have e0:=r.ah h3 h4;generalize hxv:a.eval x0=xv at e0;cases e0 with
       | @sl _ c d _ _ _ capC _ h hl hcap hb=>
        have hc0:capC≠0:=by omega
        refine⟨_,?_,.ptr o h⟩;rw[hZ];simp[builtin,hxv,Lib.run_unsafeSliceData_row (P:=C.P) w _ _ _ _ _ hc0]
       | @fm _ _ _ _ capC _ c o' h hl hcap=>
        have hc0:capC≠0:=by omega
        refine⟨_,?_,.eM o c o' h⟩;rw[hZ];simp[builtin,hxv,Lib.run_unsafeSliceData_row (P:=C.P) w _ _ _ _ _ hc0]
   . -- unsafe.String
     split at hc
     . split at hc
       . cases hc;simp[bm.bM]at hh
       grind
     grind
   . -- max
     rename_i xs h2;cases hc;simp only[bk]at hv;split at hv <;> try (cases hv;done)
     rename_i k n rest h4;obtain⟨y,m',he,hy,hl⟩:=(r.cS h2 h4).cons_inv;obtain rfl:=hy.gD;obtain⟨v',h5,h6⟩:=yW (P:=C.P) true rest m' k n v hl hv;refine⟨v',?_,h6⟩;rw[hZ];simp only[if_true]at h5;simp[builtin,Builtin.max_,he,h5]
   . rename_i xs h2;cases hc;simp only[bk]at hv;split at hv <;> try (cases hv;done)
     rename_i k n rest h4;obtain⟨y,m',he,hy,hl⟩:=(r.cS h2 h4).cons_inv;obtain rfl:=hy.gD;obtain⟨v',h5,h6⟩:=yW (P:=C.P) false rest m' k n v hl hv;refine⟨v',?_,h6⟩;rw[hZ];simp only[b5,if_false]at h5;simp[builtin,Builtin.min_,he,h5]
 all_goals exfalso
 case next x b=>cases b <;> simp at hc;obtain⟨_,_,rfl⟩:=hc;simp[bm.bM]at hh
 case makeMap t r=>cases r <;> simp at hc;subst hc;simp[bm.bM]at hh
 all_goals first
  | (cases hc;done)
  | (simp only[az]at hc;obtain⟨_,_,rfl⟩:=hc;simp[bm.bM]at hh;done)
  | (cases hc;simp[bm.bM]at hh;done)
  | (
     repeat' (split at hc)
     all_goals first
      | (cases hc;done)
      | (cases hc;simp[bm.bM]at hh;done)
      | (simp only[az]at hc;obtain⟨_,_,rfl⟩:=hc;simp[bm.bM]at hh;done))
end Go.Ab
namespace Go.Ab
variable {cs:Array Value} {e:TypeId} {O:Obj} {c:Nat} {fr:Nat×Nat}
variable {P:Program} {gl:Nat->Option AV} {ρ:aM} {w:World} {h:ae}
def fe (P:Program)(gl:Nat->Option AV)(ρ:aM)(h:ae)(w:World)(r:HR)(v':Value)(w':World):Prop:=
 ∃ρ',V ρ' w' r.v v'/\Mem P gl ρ' r.h w'/\Ext h r.h ρ ρ' w w'
theorem VL.toList {l:List AV}{m:Array Value}(hl:VL ρ w l m.toList):l.length=m.size:=by rw[hl.length];simp
theorem Ga (m:Mem P gl ρ h w){l:List AV}{cs:Array Value}(e:TypeId)(hl:VL ρ w l (cs.toList.take l.length))(hlen:l.length<=cs.size)(hex:jl P e=true->l.length=cs.size) :
 Mem P gl (ρ.dT h.length (.live w.heap.size 0)) (h++[some (.cells l e)]) { w with heap:=w.heap.push (.cells cs e) } /\
 Ext h (h++[some (.cells l e)]) ρ (ρ.dT h.length (.live w.heap.size 0)) w { w with heap:=w.heap.push (.cells cs e) }:=by
 have x:=Ext.alloc m (some (.cells l e)) (.cells cs e) (.live w.heap.size 0) aq;refine⟨Mem.alloc m _ _ _ aq ?_,x⟩;intro o' ho;cases ho;refine .inl ⟨w.heap.size,0,cs,(0,0),aM.fZ _ _ _,aq,⟨ac,fun he=>⟨rfl,hex he⟩⟩,fun i _=>aq,fun i a y hx hy=>?_⟩;have hi:i<l.length:=(aZ.1 hx).1;refine(hl.2 i a y hx ?_).mono x<;>grind
theorem OI (m:Mem P gl ρ h w){l:List AV}{cs:Array Value}(e:TypeId)(hl:VL ρ w l cs.toList) :
 Mem P gl (ρ.dT h.length (.live w.heap.size 0)) (h++[some (.cells l e)]) { w with heap:=w.heap.push (.cells cs e) } /\
 Ext h (h++[some (.cells l e)]) ρ (ρ.dT h.length (.live w.heap.size 0)) w { w with heap:=w.heap.push (.cells cs e) }:=
 Ga m e (by rw[hl.length,d6];exact hl) (by rw[hl.toList];simp) (fun _=>hl.toList)
theorem yY {len esz capC:Nat}{cap:Option Nat}(hl:len<=capC)(hcap:∀n,cap=some n->capC=n)(hb:capC*esz<=cs.size) :
 V (ρ.dT h.length (.live w.heap.size 0)) { w with heap:=w.heap.push (.cells cs e) } (.sl h.length 0 len esz cap) (.slice (some ⟨w.heap.size,0,none⟩) len capC):=
 V.sl (d:=0) aq hl hcap ⟨cs,e,(0,0),aq,ac⟩
theorem yZ:V (ρ.dT h.length (.live w.heap.size 0)) { w with heap:=w.heap.push O } (.ptr h.length 0) (.pointer (some ⟨w.heap.size,0,none⟩)):=
 V.ptr (d:=0) 0 aq
theorem readable (m:Mem P gl ρ h w){x:AV}{x':Value}(hx:V ρ w x x'){l:List AV}(hr:fV h x=some l) :
 ∃(c o:Nat) (g:Nat->Value),x' = .pointer (some ⟨c,o,none⟩)/\∀(i:Nat) y,l[i]? = some y->w.cell? ⟨c,o+i,none⟩=some (g i)/\V ρ w y (g i):=by
 cases x <;> simp only[fV,reduceCtorEq]at hr
 case ptr b off=>
  obtain⟨l0,e,hb',rfl⟩:∃l0 e,h[b]? = some (some (.cells l0 e))/\l0.drop off=l:=by
   unfold ae.at at hr;grind
  rcases m.dm b _ hb' with ⟨c,d,cs,fr,h1,h2,h3,h4,h5⟩|⟨h1,h2⟩
  . cases hx with
    | ptr _ hρ=>
     rw[h1]at hρ;cases hρ;refine⟨c,off+d,fun i=>cs.getD (off+d+i) undef,rfl,fun i y hy=>?_⟩;have hy':l0[off+i]? = some y:=by simpa using hy
     have hlt:off+i<l0.length:=(aZ.1 hy').1;have hcs:cs[off+i+d]? = some (cs.getD (off+d+i) undef):=by
      have:off+d+i=off+i+d:=by omega
      rw[this];have hlt':off+i+d<cs.size:=by have:=h3.1;omega
      simp[hlt']
     refine⟨?_,h5 (off+i) y _ hy' hcs⟩;unfold f6;grind
    | eM _ _ _ hρ=>grind
  . subst h2;cases hx<;>grind
 case vp l0=>
  cases hr;cases hx with
  | vp c o g hf hc hg=>
   exact⟨c,o,g,rfl,fun i y hy=>⟨hc i (aZ.1 hy).1,hg i y hy⟩⟩
theorem run_loadCellsFrom {c o:Nat}{g:Nat->Value}:∀(n i:Nat) (acc:Array Value),(∀j,i<=j->j<i+n->w.cell? ⟨c,o+j,none⟩=some (g j)) ->
 (loadCellsFrom ⟨c,o,none⟩ i n acc).run P w = .ok (acc++((fM i n).map g).toArray) w
 | 0,i,acc,_=>by rfl
 | n+1,i,acc,hc=>by
  have h0:=hc i (bj _) ac;simp only[loadCellsFrom,bc,Addr.hJ,run_load,h0,aW];rw[run_loadCellsFrom n (i+1) _ (fun j h1 h2=>hc j ac ac)];simp[i7]
theorem Gb {t:TypeId}{n:Nat}{ag:Bool}(hs:shapeOf P t=some (n,ag)){c o:Nat}{g:Nat->Value}{l:List AV}
 (hr:∀(i:Nat) y,l[i]? = some y->w.cell? ⟨c,o+i,none⟩=some (g i)/\V ρ w y (g i)) {v:AV} (hv:partOf l 0 n ag=some v) :
 ∃v',(loadVar t ⟨c,o,none⟩).run P w = .ok v' w/\V ρ w v v':=by
 obtain⟨i,d,h1,h2,rfl,rfl⟩:=qT hs;unfold partOf at hv;simp only[loadVar,bc,FL h2,aW];split at hv
 . rename_i hag;simp only[az]at hv;obtain⟨r,hr',rfl⟩:=hv;unfold cut at hr';simp only[List.drop_zero]at hr';split at hr'
   . rename_i hl;cases hr';have hl':i.size<=l.length:=by simp at hl;omega
     rw[if_pos hag];have hrun:=run_loadCellsFrom (P:=P) (w:=w) (c:=c) (o:=o) (g:=g) i.size 0 #[] (fun j _ hj=>by
      have hj':j<l.length:=by omega
      simp_all)
     refine⟨.agg ((fM 0 i.size).map g).toArray,?_,V.qR ⟨aw,fun j x y hx hy=>?_⟩⟩
     . simp only[bc,gZ h1,aW,loadCells,hrun];simp
     grind
   grind
 . rename_i hag;rw[if_neg hag];obtain⟨h3,h4⟩:=hr 0 v hv<;>simp_all
theorem OJ {x:AV}{v:Value}(hx:V ρ w x v)(h:cI x=true):v.oneCell'=true:=by
 cases hx <;> first|rfl|(simp[cI]at h)
theorem OK {o:Nat}(h:w.heap[c]? = some (.cells cs e fr)):w.cell? ⟨c,o,none⟩=cs[o]? := by
 unfold f6;simp[h]
theorem OL {o:Nat}(h:w.heap[c]? = some (.cells cs e fr))(v:Value) :
 w.setCell ⟨c,o,none⟩ v=w.dE c (.cells (cs.setIfInBounds o v) e fr):=by
 have hlt:=(b8.1 h).1;have hg:=(b8.1 h).2;unfold World.setCell World.dE;congr 1<;>grind
theorem OM {O':Obj}:(w.dE c O).dE c O'=w.dE c O':=by
 unfold World.dE;simp
theorem ON (h:w.heap[c]? = some O):w.dE c O=w:=by
 have hlt:=(b8.1 h).1;have hg:=(b8.1 h).2;unfold World.dE;have:w.heap.setIfInBounds c O=w.heap:=by
  apply Array.ext_getElem?;intro i;rw[Array.getElem?_setIfInBounds];by_cases hi:c=i
  . grind
  . grind
 rw[this]
theorem Gc {i:Nat}{cs':Array Value}(h:w.heap[c]? = some (.cells cs e fr)) :
 (w.dE c (.cells cs' e fr)).frozen? ⟨c,i,none⟩=w.frozen? ⟨c,i,none⟩:=by
 unfold ip;grind[mU]
theorem Gd {c o:Nat}{e:TypeId}{fr:Nat×Nat}:∀(vs:List Value) (i:Nat) (w:World) (cs:Array Value),w.heap[c]? = some (.cells cs e fr)->o+i+vs.length<=cs.size ->
 (∀j,j<cs.size->w.frozen? ⟨c,j,none⟩=false)->(∀v∈vs,v.oneCell'=true) ->
 (storeCells ⟨c,o,none⟩ vs i).run P w = .ok () (w.dE c (.cells (ow cs.toList (o+i) vs).toArray e fr))
 | [],i,w,cs,h,_,_,_=>by
  simp only[storeCells,ci];have:ow cs.toList (o+i) []=cs.toList:=by simp[ow]
  rw[this,c8,ON h]
 | v::vs,i,w,cs,h,hl,hf,hv=>by
  simp only[dU]at hl;simp only[storeCells,bc,Addr.hJ];have hlt:o+i<cs.size:=by omega
  rw[run_store P w _ v .plain aw,OK h];rw[show cs[o+i]? = some cs[o+i] from by simp];simp only[hf _ hlt,b5,if_false,aW];rw[OL h];have hc:=(b8.1 h).1;have hf':∀j,j<cs.size->(w.dE c (.cells (cs.setIfInBounds (o+i) v) e fr)).frozen? ⟨c,j,none⟩=false:=(by grind[Gc]);rw[Gd vs (i+1) _ (cs.setIfInBounds (o+i) v) (mU hc) aw aw aw];rw[OM];have e1:(ow (cs.setIfInBounds (o+i) v).toList (o+(i+1)) vs)=ow cs.toList (o+i) (v::vs):=by
   rw[FX ac,Array.toList_setIfInBounds];rfl
  rw[e1]
theorem kJ (m:Mem P gl ρ h w){b:Nat}{l:List AV}{e:TypeId}(hb:h.at b=some (.cells l e)) :
 h[b]? = some (some (.cells l e))/\BR P gl ρ w b (.cells l e):=by
 have:h[b]? = some (some (.cells l e)):=by
  unfold ae.at at hb;cases hq:h[b]? with
  | none=>grind
  | some q=>grind
 exact⟨this,m.dm b _ this⟩
theorem pj {b:Nat}{o:bR}(hb:h.at b=some o):h[b]? = some (some o):=by
 unfold ae.at at hb;grind
theorem qZ (m:Mem P gl ρ h w){b:Nat}{l:List AV}{e:TypeId}(hb:h.at b=some (.cells l e)){c d:Nat}(hρ:ρ b = .live c d){off:Nat}{new:List AV}{nv:List Value}(hn:VL ρ w new nv)
 (hoff:off<=l.length) (hlen:∀cs e' fr,w.heap[c]? = some (.cells cs e' fr)->off+d+new.length<=cs.size) (hone:new.all cI=true) :
 ∃w',(storeCells ⟨c,off+d,none⟩ nv).run P w = .ok () w'/\Mem P gl ρ (h.put b (some (.cells (overwrite l off new) e))) w'/\Ext h (h.put b (some (.cells (overwrite l off new) e))) ρ ρ w w':=by
 obtain⟨h0,hbr⟩:=kJ m hb;rcases hbr with ⟨c',d',cs,fr,h1,h2,h3,h4,h5⟩|⟨h1,_⟩
 . rw[hρ]at h1;cases h1;have hone':∀v∈nv,v.oneCell'=true:=by
    intro v hv;obtain⟨i,hi,rfl⟩:=List.mem_iff_getElem.1 hv;have hi':i<new.length:=by rw[hn.length];exact hi
    have ho:cI new[i]=true:=aw;exact OJ (hn.2 i new[i] nv[i] (b7 hi') (b7 hi)) ho
   have hlen':off+d+nv.length<=cs.size:=by rw[←hn.length];exact hlen cs e fr h2
   have hrun:=Gd (P:=P) (c:=c) (o:=off+d) (e:=e) (fr:=fr) nv 0 w cs h2 ac h4 hone';simp only[Nat.add_zero]at hrun;have hsz:(ow cs.toList (off+d) nv).toArray.size=cs.size:=by
    have:=Oz (m:=cs.toList) (new:=nv) (off:=off+d) ac;simpa using this
   have hO:∀cs0 e0 fr0,w.heap[c]? = some (.cells cs0 e0 fr0)->∃cs' fr',Obj.cells (ow cs.toList (off+d) nv).toArray e fr = .cells cs' e0 fr'/\cs'.size=cs0.size:=by
    intro cs0 e0 fr0 hq;rw[h2]at hq;cases hq;exact⟨_,_,rfl,hsz⟩
   have x:=Ext.write m h0 hρ (some (.cells (overwrite l off new) e)) (.cells (ow cs.toList (off+d) nv).toArray e fr) hO;refine⟨_,hrun,?_,x⟩;refine Mem.write m h0 hρ _ _ hO ?_;intro o' ho;cases ho;have hc:=m.bound _ _ _ hρ;have hle:Fits P e d (overwrite l off new).length cs.size:=by
    have h9:=hn.length;have zh:=h3.1;refine⟨by simp[overwrite];omega,fun he=>?_⟩;have zj:=h3.2 he;refine⟨zj.1,?_⟩;simp[overwrite];omega
   refine .inl ⟨c,d,_,fr,hρ,mU hc,aw,fun i hi=>by grind[Gc],fun i x' y hx hy=>?_⟩;refine V.mono x ?_;have hy':(ow cs.toList (off+d) nv)[i+d]? = some y:=by simpa using hy
   unfold overwrite at hx;unfold ow at hy';have hnl:=hn.length;simp only[ib,ff,dF,cV,fg]at hx hy';have t1:min off l.length=off:=by omega
   have t2:min (off+d) cs.toList.length=off+d:=by simp;omega
   rw[t1]at hx;rw[t2]at hy';by_cases k1:i<off
   . grind
   . by_cases k2:i<off+new.length
     . rw[if_pos ac,if_neg k1]at hx;rw[if_pos ac,if_neg ac]at hy';rw[show i+d-(off+d)=i-off from by omega]at hy';exact hn.2 _ x' y hx hy'
     grind
 grind
end Go.Ab
namespace Go.Ab
variable {P:Program} {gl:Nat->Option AV} {ρ:aM} {w:World} {h:ae}
theorem run_loadCells {c o:Nat}{g:Nat->Value}{l:List AV}(hr:∀(i:Nat) y,l[i]? = some y->w.cell? ⟨c,o+i,none⟩=some (g i)/\V ρ w y (g i)){k:Nat}(hk:k<=l.length) :
 ∃cs:List Value,(loadCells ⟨c,o,none⟩ k).run P w = .ok cs.toArray w/\VL ρ w (l.take k) cs:=by
 have hrun:=run_loadCellsFrom (P:=P) (w:=w) (c:=c) (o:=o) (g:=g) k 0 #[] (fun j _ hj=>by
  have hj':j<l.length:=by omega
  simp_all)
 refine⟨(fM 0 k).map g,by simpa[loadCells] using hrun,aw,fun j x y hx hy=>?_⟩;grind
theorem OO (m:Mem P gl ρ h w){b:Nat}{l:List AV}{e:TypeId}(hb:h.at b=some (.cells l e)){c d:Nat}(hρ:ρ b = .live c d)(off:Nat) :
 ∃g:Nat->Value,∀(i:Nat) y,(l.drop off)[i]? = some y->w.cell? ⟨c,off+d+i,none⟩=some (g i)/\V ρ w y (g i):=by
 have hx:V ρ w (.ptr b off) (.pointer (some ⟨c,off+d,none⟩)):=.ptr off hρ;have hr:fV h (.ptr b off)=some (l.drop off):=by simp[fV,hb]
 obtain⟨c',o',g,he,hg⟩:=readable m hx hr;cases he;exact⟨g,hg⟩
theorem Ge:∀(s:List UInt8),VL ρ w (s.map fun c=>AV.int .u8 c.toNat) (s.map fun c=>jj .u8 c.toNat)
 | []=>.nil
 | _::s=>.cons (.int _ _) (Ge s)
theorem lM (m:Mem P gl ρ h w){x:AV}{x':Value}(hx:V ρ w x x'){l:List AV}{n:Nat}(hs:gN h x=some (l,n)){size:Nat}(hl:l.length=n*size) :
 (Builtin.lenOf x').run P w = .ok n w/\∀k,k<=n->∃cs:List Value,(Builtin.firstCells size k x').run P w = .ok cs.toArray w/\VL ρ w (l.take (k*size)) cs:=by
 cases x <;> simp only[gN,reduceCtorEq,b6.injEq,jN.injEq]at hs
 case str s=>
  obtain⟨rfl,rfl⟩:=hs;obtain rfl:=hx.jG;by_cases hs0:s=[]
  . subst hs0;exact⟨rfl,fun k hk=>⟨[],by simp only[Builtin.firstCells,ci];simp,by simpa using VL.nil⟩⟩
  obtain rfl:size=1:=by
   have h1:0<s.length:=aw;have h2:s.length*1=s.length*size:=by simpa using hl
   exact(Nat.eq_of_mul_eq_mul_left h1 h2).symm
  refine⟨by rfl,fun k hk=>⟨(s.take k).map fun c=>jj .u8 c.toNat,?_,?_⟩⟩
  . simp only[Builtin.firstCells,ci]<;>simp_all
  . rw[i9,←List.map_take];exact Ge _
 case ab=>
  obtain⟨rfl,rfl⟩:=hs;cases hx;exact⟨rfl,fun k _=>⟨[],rfl,by simpa using VL.nil⟩⟩
 case vs l0 len cap=>
  obtain⟨rfl,rfl⟩:=hs;cases hx with
  | vs c o g hf hlc hcap hc hg=>
   refine⟨rfl,fun k hk=>?_⟩;have hk':k*size<=l0.length:=by rw[hl];exact ce _ hk
   exact run_loadCells (P:=P) (fun i y hy=>⟨hc i (aZ.1 hy).1,hg i y hy⟩) hk'
  | fa hcap=>exact⟨rfl,fun k _=>⟨[],rfl,by simpa using VL.nil⟩⟩
  | fK a hcap=>exact⟨rfl,fun k hk=>⟨[],by rw[Nat.le_zero.1 hk];(simp only[Builtin.firstCells,loadCells,gU];rfl),by simpa using VL.nil⟩⟩
 case sl b off len esz cap=>
  split at hs
  . rename_i l0 e hb;simp only[az,jN.injEq]at hs;obtain⟨r,hcut,rfl,rfl⟩:=hs;unfold cut at hcut;simp only at hcut;split at hcut
    . rename_i hlen;cases hcut;obtain⟨h0,hbr⟩:=kJ m hb;have hln:len*esz=len*size:=by rw[←hlen,hl]
      cases hx with
      | @sl _ c d _ _ _ capC _ hρ hlc hcap hs=>
       refine⟨rfl,fun k hk=>?_⟩;obtain⟨g,hg⟩:=OO m hb hρ off;have hk':k*size<=(l0.drop off).length:=by
        have:(ii (len*esz) (gT off l0)).length<=(l0.drop off).length:=by rw[dF];omega
        have h3:k*size<=len*size:=ce _ hk;omega
       obtain⟨cs,h1,h2⟩:=run_loadCells (P:=P) hg hk';refine⟨cs,h1,?_⟩;grind[Nat.min_eq_left,ce]
      | fX hρ=>exact⟨rfl,fun k _=>⟨[],rfl,by grind[VL.nil]⟩⟩
      | fm _ _ hρ _ _=>rcases hbr.live with ⟨c,d,hl'⟩|hl'|hl' <;> (rw[hρ]at hl';cases hl')
      | fJ hρ=>rcases hbr.live with ⟨c,d,hl'⟩|hl'|hl' <;> (rw[hρ]at hl';cases hl')
      | fY a hρ=>rcases hbr.live with ⟨c,d,hl'⟩|hl'|hl' <;> (rw[hρ]at hl';cases hl')
    grind
  . split at hs
    . rename_i hn;subst hn;cases hs;cases hx with
      | sl hρ hlc hcap hs=>exact⟨rfl,fun k hk=>run_loadCells (P:=P) (g:=fun _=>.bool false) (l:=[]) aq aw⟩
      | fX hρ=>exact⟨rfl,fun k _=>⟨[],rfl,by simpa using VL.nil⟩⟩
      | fm _ _ hρ _ _=>exact⟨rfl,fun k hk=>run_loadCells (P:=P) (g:=fun _=>.bool false) (l:=[]) aq aw⟩
      | fJ hρ=>exact⟨rfl,fun k _=>⟨[],rfl,by simpa using VL.nil⟩⟩
      | fY a hρ=>exact⟨rfl,fun k hk=>⟨[],by rw[Nat.le_zero.1 hk];(simp only[Builtin.firstCells,loadCells,gU];rfl),by simpa using VL.nil⟩⟩
    grind
theorem Gf (n:Nat):∀(k c:Nat),256<=c->c<=2*n->Builtin.growBy n k c<=2*n
 | 0,c,_,h=>h
 | k+1,c,h0,h=>by
  simp only[Builtin.growBy];split
  . exact h
  . exact Gf n k _ ac ac
theorem OP {n c:Nat}(h:c<n):Builtin.nextslicecap n c<=2*n:=by
 unfold Builtin.nextslicecap;grind[Gf]
theorem OQ (z:Array Value)(n:Nat):(Builtin.zeroCells z n).size=n*z.size:=by simp[Builtin.zeroCells]
structure zk (P:Program)(t u elem:TypeId)(i:TypeInfo)(z:Value):Prop where
 ht:P.underlying t=some (.slice elem)
 hu:(∃e,P.underlying u=some (.slice e))\/P.underlying u=some .string
 hi:P.info? elem=some i
 hz:i.zero=some z
 hs:z.cells.size=i.size
theorem zo {t u ty elem:TypeId}{i:TypeInfo}{z:Value}(ht:zk P t u elem i z){base:Option Addr}{len capC n:Nat}{y':Value}{new:Array Value}{w':World}
 (hn:(Builtin.lenOf y').run P w = .ok n w) (hf:(Builtin.firstCells i.size n y').run P w = .ok new w) (hle:len+n<=capC)
 (hs:(match base with|some a=>storeCells (a.add (len*i.size)) new.toList|none=>pure ():Sem Unit).run P w = .ok () w') :
 (Builtin.append_ #[t,u] ty #[.slice base len capC,y']).run P w = .ok (.slice base (len+n) capC) w':=by
 obtain⟨h1,h2,h3,h4,h5⟩:=ht;rcases h2 with ⟨e,h2⟩|h2;all_goals
  cases base with
  | none=>
   simp only[ci,Result.ok.injEq,true_and]at hs;subst hs;simp[Builtin.append_,bV h1,bV h2,sizeOf,typeInfo,h3,hn,hf,hle]
  | some a=>
   simp only at hs;simp[Builtin.append_,bV h1,bV h2,sizeOf,typeInfo,h3,hn,hf,hle,hs]
theorem OR {t u ty elem:TypeId}{i:TypeInfo}{z:Value}(ht:zk P t u elem i z){base:Option Addr}{len capC n:Nat}{y':Value}{cT new:Array Value}
 (hn:(Builtin.lenOf y').run P w = .ok n w) (hlt:capC<len+n) (hb:0<i.bytes) (hr:(len+n)*i.bytes<=dO)
 (ho:(Builtin.firstCells i.size len (.slice base len capC)).run P { w with drawn:=w.drawn+1 } = .ok cT { w with drawn:=w.drawn+1 })
 (hf:(Builtin.firstCells i.size n y').run P { w with drawn:=w.drawn+1 } = .ok new { w with drawn:=w.drawn+1 }) :
 ∃cap,len+n<=cap/\(Builtin.append_ #[t,u] ty #[.slice base len capC,y']).run P w =
  .ok (.slice (some ⟨w.heap.size,0,none⟩) (len+n) cap) { w with drawn:=w.drawn+1,heap:=w.heap.push (.cells (cT++new++Builtin.zeroCells z.cells (cap-(len+n))) elem) }:=by
 obtain⟨h1,h2,h3,h4,h5⟩:=ht;have hle:¬(len+n<=capC):=by omega
 have hroom:dO=70368744177664:=by decide
 have hN:len+n<=dO:=iK (Nat.le_mul_of_pos_right _ hb) hr;have h48:¬(281474976710656<Builtin.nextslicecap (len+n) capC*i.bytes):=by
  have:=ce i.bytes (OP hlt);rw[Nat.mul_assoc]at this;omega
 have hb':i.bytes≠0:=by omega
 refine⟨(Question.appendCap (len+n) capC elem).cut (w.tape w.drawn (.appendCap (len+n) capC elem)),by simp[Question.cut],?_⟩;have ho':(Builtin.firstCells i.size len (.slice base len capC)).run P w.drew = .ok cT w.drew:=ho;have hf':(Builtin.firstCells i.size n y').run P w.drew = .ok new w.drew:=hf;rcases h2 with ⟨e,h2⟩|h2;all_goals
  simp[Builtin.append_,bV h1,bV h2,sizeOf,typeInfo,zeroValue,h3,h4,hn,hle,h48,hb',Question.forced,newRow,ho',hf'];rfl
theorem VL.OS {l:List AV}{m m':List Value}(h:VL ρ w l (m.take l.length)):VL ρ w l ((m++m').take l.length):=by
 rw[List.take_append_of_le_length]
 . exact h
 . have:=h.length<;>grind
theorem OT {h0:List (Option bR)}{n:Nat}(hn:h0.length=n)(x y:Option bR):ae.put (h0++[x]) n y=h0++[y]:=by
 subst hn;unfold ae.put;simp
theorem OU (m:Mem P gl ρ h w){t u ty elem:TypeId}{i:TypeInfo}{z:Value}(ht:zk P t u elem i z){x y:AV}{x' y':Value}(hx:V ρ w x x')(hy:V ρ w y y')
 (hne:jl P elem=false) {r:HR} (ha:kC elem i.size i.bytes h x y=some r) :
 ∃v' w',(Builtin.append_ #[t,u] ty #[x',y']).run P w = .ok v' w'/\fe P gl ρ h w r v' w':=by
 unfold kC at ha;split at ha
 . cases ha
 . rename_i new n hsc;split at ha
   . rename_i hcond;obtain⟨hnl,hb,hone⟩:=hcond;obtain⟨hlen,hfirst⟩:=lM m hy hsc hnl;obtain⟨hlen',hfirst'⟩:=lM (m.drew (w.drawn+1)) (hy.mono (Ext.drew h ρ w _)) hsc hnl;obtain⟨nv,hf,fC⟩:=hfirst n (bj _);obtain⟨nv',hf',hnv'⟩:=hfirst' n (bj _);rw[←hnl,d6]at fC hnv';have none_case:n=0->(∃base len capC,x' = .slice base len capC/\len<=capC)->r=⟨x,h,[]⟩->∃v' w',(Builtin.append_ #[t,u] ty #[x',y']).run P w = .ok v' w'/\fe P gl ρ h w r v' w':=by
      rintro rfl ⟨base,len,capC,rfl,hlc⟩ rfl;have hnv0:nv=[]:=by
       have:=fC.length;rw[hnl,gU]at this;exact aw
      subst hnv0;refine⟨_,w,zo ht hlen hf ac ?_,ρ,ac,m,Ext.refl _ _ _⟩;cases base <;> simp[storeCells]
     have new_case:∀(base:Option Addr) (len capC:Nat) (oldl:List AV) (cT:List Value) (h0:ae) (ρ0:aM),x' = .slice base len capC->capC<len+n->(len+n)*i.bytes<=dO->oldl.length=len*i.size ->
      (Builtin.firstCells i.size len x').run P { w with drawn:=w.drawn+1 } = .ok cT.toArray { w with drawn:=w.drawn+1 } ->
      Mem P gl ρ0 h0 { w with drawn:=w.drawn+1 }->Ext h h0 ρ ρ0 w { w with drawn:=w.drawn+1 }->VL ρ0 { w with drawn:=w.drawn+1 } oldl cT->VL ρ0 { w with drawn:=w.drawn+1 } new nv'->h0.length=h.length ->
      ∀wr,r=⟨.sl h.length 0 (len+n) i.size none,h0++[some (.cells (oldl++new) elem)],wr⟩ ->
      ∃v' w',(Builtin.append_ #[t,u] ty #[x',y']).run P w = .ok v' w'/\fe P gl ρ h w r v' w':=by
      rintro base len capC oldl cT h0 ρ0 rfl hlt hroom hol hfo m0 x0 ho hn0 hl0 wr rfl;obtain⟨cap,hcap,hrun⟩:=OR (ty:=ty) ht hlen hlt hb hroom hfo hf';refine⟨_,_,hrun,?_⟩;have e1:=ho.length;have e2:=hn0.length;have hcs:(cT.toArray++nv'.toArray++Builtin.zeroCells z.cells (cap-(len+n))).size=(oldl++new).length+(cap-(len+n))*i.size:=by
       rw[Array.size_append,OQ,ht.hs];simp;omega
      have hvl:VL ρ0 { w with drawn:=w.drawn+1 } (oldl++new) ((cT.toArray++nv'.toArray++Builtin.zeroCells z.cells (cap-(len+n))).toList.take (oldl++new).length):=by
       have h9:=ho.append hn0;have e9:=h9.length;rw[show (cT.toArray++nv'.toArray++Builtin.zeroCells z.cells (cap-(len+n))).toList=(cT++nv')++(Builtin.zeroCells z.cells (cap-(len+n))).toList from by simp];refine VL.OS ?_;rw[e9,d6];exact h9
      obtain⟨m1,x1⟩:=Ga m0 (l:=oldl++new) (cs:=cT.toArray++nv'.toArray++Builtin.zeroCells z.cells (cap-(len+n))) elem hvl ac aw;rw[←hl0];refine⟨_,yY hcap aq ?_,m1,x0.trans x1⟩;rw[hcs,ff,hol,hnl,←g9,←g9];have:len+n+(cap-(len+n))=cap:=by omega
      rw[this];exact bj _
     have md:=m.drew (w.drawn+1);have xd:=Ext.drew h ρ w (w.drawn+1);split at ha
     . -- nil
       cases hx;split at ha
       . simp_all
       . rename_i h0;split at ha
         . rename_i hroom;cases ha;exact new_case none 0 0 [] [] h ρ rfl ac aw aq rfl md xd VL.nil hnv' rfl [] aq
         grind
     . -- by its content
       rename_i l len cap;obtain⟨base,len',capC,rfl,hlc,hsp,hnil⟩:=kf hx trivial;obtain⟨rfl,hcap⟩:=qW hx;split at ha
       . simp_all
       . rename_i h0;split at ha
         . rename_i c;split at ha
           . rename_i hc;cases ha;obtain⟨h1,hroom,hll⟩:=hc;have hcc:=hcap c rfl;obtain⟨_,ho⟩:=lM md (hx.mono xd) (l:=l) (n:=len') (by rfl) hll;obtain⟨cT,ho1,ho2⟩:=ho len' (bj _)<;>grind
           grind
         grind
     . -- into a block of the call's own
       rename_i b off len e cap;obtain⟨base,len',capC,rfl,hlc,hsp,hnil⟩:=kf hx trivial;obtain⟨rfl,hcap⟩:=qV hx;split at ha
       . simp_all
       . rename_i h0;split at ha <;> try (cases ha;done)
         rename_i hc;obtain⟨he,hroom⟩:=hc;subst he;split at ha <;> try (cases ha;done)
         rename_i l el hat;obtain⟨hb0,hbr⟩:=kJ m hat;have hρl:ρ b≠.dead:=fun hd=>by rcases hbr.live with ⟨_,_,hl'⟩|hl'|hl' <;> (rw[hd]at hl';cases hl')
         split at ha
         . -- the capacity is known
           rename_i c;have hcc:=hcap c rfl;split at ha
           . rename_i hle;split at ha
             . rename_i hin;cases ha;cases hx with
               | @sl _ cb d _ _ _ _ _ hρ _ _ hs=>
                obtain⟨cs,e',fr,h5,h6⟩:=hs;have hoff:off+len'*i.size<=l.length:=by
                 have:len'*i.size<=(len'+n)*i.size:=aw;omega
                obtain⟨w',hst,m1,x1⟩:=qZ (off:=off+len'*i.size) m hat hρ fC hoff (fun cs0 e0 fr0 hq=>by
                 rw[h5]at hq;cases hq;rw[hnl];have:(len'+n)*i.size<=capC*i.size:=ce _ ac<;>grind) hone
                refine⟨_,w',zo ht hlen hf ac (by
                 grind[Addr.hJ]),ρ,?_,m1,x1⟩
                obtain⟨cs',fr',h7,h8⟩:=x1.shape _ _ _ _ h5;exact .sl hρ ac hcap ⟨cs',e',fr',h7,ac⟩
               | fm _ _ hρ _ _=>grind
               | fY a hρ=>omega
             grind
           . rename_i hgt;split at ha
             . rename_i old' hcut;cases ha;have hcut':=hcut;unfold cut at hcut';simp only at hcut';split at hcut'
               . rename_i hcl;cases hcut';obtain⟨_,ho⟩:=lM md (hx.mono xd) (l:=ii (len'*i.size) (gT off l)) (n:=len') (by simp[gN,hat,hcut]) hcl;obtain⟨cT,ho1,ho2⟩:=ho len' (bj _)<;>grind
               grind
             grind
         . -- the capacity is not known
           split at ha
           . rename_i hend;cases ha;obtain⟨hend,rfl⟩:=hend;have hcl:(ii (len'*i.size) (gT off l)).length=len'*i.size:=by simp;omega
             have hdrop:ii (len'*i.size) (gT off l)=gT off l:=List.take_of_length_le aw;by_cases hfit:len'+n<=capC
             . -- there is room
               cases hx with
               | @sl _ cb d _ _ _ _ _ hρ _ _ hs=>
                obtain⟨cs,e',fr,h5,h6⟩:=hs;have hroomc:off+d+(len'+n)*i.size<=cs.size:=by
                 have:(len'+n)*i.size<=capC*i.size:=ce _ hfit;omega
                have hbr':BR P gl ((ρ.dT b .dead).dT h.length (.live cb (off+d))) w h.length (.cells (l.drop off) el):=by
                 rcases hbr with ⟨c',d',cs',fr',g1,g2,g3,g4,g5⟩|⟨g1,g2⟩
                 . rw[hρ]at g1;cases g1;rw[h5]at g2;cases g2;refine .inl ⟨cb,off+d,cs,fr,aM.fZ _ _ _,h5,⟨aw,fun he=>by grind⟩,g4,fun j a v' ha hv=>?_⟩;refine(g5 (off+j) a v' aw aw).mono (Ext.move m hb0 hρ (some (.cells (l.drop off) el)) (off+d))
                 . grind
                have m1:=Mem.move m hb0 hρ (some (.cells (l.drop off) el)) (off+d) aw;have x1:=Ext.move m hb0 hρ (some (.cells (l.drop off) el)) (off+d);have hat':(h.set b none++[some (.cells (l.drop off) el)]:ae).at h.length=some (.cells (l.drop off) el):=by
                 unfold ae.at;rw[List.getElem?_append_right aq];simp
                have hρ':((ρ.dT b .dead).dT h.length (.live cb (off+d))) h.length = .live cb (off+d):=aq;obtain⟨w',hst,m2,x2⟩:=qZ (off:=len'*i.size) m1 hat' hρ' (fC.mono x1) aw aw hone;have hh:(h.set b none++[some (.cells (l.drop off) el)]:ae).put h.length (some (.cells (overwrite (l.drop off) (len'*i.size) new) el))=h.put b none++[some (.cells (l.drop off++new) el)]:=by
                 have:overwrite (l.drop off) (len'*i.size) new=l.drop off++new:=by
                  unfold overwrite;have e2:(l.drop off).drop (len'*i.size+new.length)=[]:=(by simp_all);rw[hdrop,e2,ja]
                 rw[this];exact OT aq _ _
                rw[hh]at m2 x2;refine⟨_,w',zo ht hlen hf hfit (by
                 grind[Addr.hJ]),_,?_,m2,x1.trans x2⟩
                obtain⟨cs',fr',h7,h8⟩:=(x1.trans x2).shape _ _ _ _ h5;have:=V.sl (w:=w') (o:=0) (len:=len'+n) (esz:=i.size) (capC:=capC) (cap:=none) hρ' hfit aq ⟨cs',e',fr',h7,ac⟩;grind
               | fX hρ=>omega
               | fm _ _ hρ _ _=>grind
               | fJ hρ=>omega
             . have hsc':gN h (.sl b off len' i.size none)=some (ii (len'*i.size) (gT off l),len'):=by
                simp[gN,hat,cut];omega
               obtain⟨_,ho⟩:=lM md (hx.mono xd) hsc' hcl;obtain⟨cT,ho1,ho2⟩:=ho len' (bj _);rw[List.take_take,Nat.min_self,hdrop]at ho2;have m1:=md.forget hb0;have x1:=xd.trans (Ext.forget (w:={ w with drawn:=w.drawn+1 }) hb0 (fun c d hl=>m.bound b c d hl));exact new_case base len' capC _ cT (h.set b none) _ rfl ac hroom aw ho1 m1 x1 (ho2.mono (Ext.forget (w:={ w with drawn:=w.drawn+1 }) hb0 (fun c d hl=>m.bound b c d hl))) (hnv'.mono (Ext.forget (w:={ w with drawn:=w.drawn+1 }) hb0 (fun c d hl=>m.bound b c d hl))) aq [b] rfl
           grind
     grind
   grind
end Go.Ab
namespace Go.Ab
variable {P:Program} {gl:Nat->Option AV} {ρ:aM} {w:World} {h:ae} {C:Cx} {s:St} {a:Act}
def cn (C:Cx)(e:Operand->Value)(o:Oper)(ρ:aM)(h:ae)(w:World)(r:HR):Prop:=
 ∃v' w',((execOp e o).run C.P w = .ok (.value v') w'\/((execOp e o).run C.P w = .ok .skip w'/\v'=undef))/\fe C.P C.gl ρ h w r v' w'
theorem cn.val {o:Oper}{r:HR}{v':Value}{w':World}(h1:(execOp a.eval o).run C.P w = .ok (.value v') w')(h2:fe C.P C.gl ρ h w r v' w'):cn C a.eval o ρ h w r:=⟨v',w',.inl h1,h2⟩
theorem cn.skip {o:Oper}{r:HR}{w':World}(h1:(execOp a.eval o).run C.P w = .ok .skip w')(h2:fe C.P C.gl ρ h w r undef w'):cn C a.eval o ρ h w r:=⟨undef,w',.inr ⟨h1,rfl⟩,h2⟩
theorem iy (m:Mem P gl ρ h w){x:AV}{v':Value}(hv:V ρ w x v'):fe P gl ρ h w ⟨x,h,[]⟩ v' w:=⟨ρ,hv,m,Ext.refl _ _ _⟩
theorem tP (m:Mem P gl ρ h w){l:List AV}{cs:Array Value}(e:TypeId)(hl:VL ρ w l cs.toList){x:AV}{v':Value}(hv:V (ρ.dT h.length (.live w.heap.size 0)) { w with heap:=w.heap.push (.cells cs e) } x v') :
 fe P gl ρ h w ⟨x,h++[some (.cells l e)],[]⟩ v' { w with heap:=w.heap.push (.cells cs e) }:=
 let ⟨m1,x1⟩:=OI m e hl
 ⟨_,hv,m1,x1⟩
theorem zy {z:List AV}{zv:Array Value}(hz:VL ρ w z zv.toList):∀n,VL ρ w (gP z n) ((db (n*zv.size)).map (zv[· % zv.size]!)).toList:=by
 intro n;have key:∀n,((db (n*zv.size)).map (zv[· % zv.size]!)).toList=(List.replicate n zv.toList).flatten:=by
  intro n;by_cases h0:zv.size=0
  . simp_all
  . induction n with
    | zero=>simp
    | succ n ih=>
     rw[List.replicate_succ',List.flatten_append,←ih];simp only[dh,Array.toList_range];rw[Nat.succ_mul,List.range_add,List.map_append];congr 1;simp only[List.map_map,i6,List.flatten_nil,ja];apply List.ext_getElem
     . simp
     . intro i h1 h2;simp at h1;simp[Nat.add_comm,Nat.mod_eq_of_lt h1,h1]
 rw[key];induction n with
 | zero=>exact .nil
 | succ n ih=>
  simp only[gP,List.replicate_succ,i6];exact hz.append ih
theorem zz (z:List AV):∀n,(gP z n).length=n*z.length
 | 0=>by simp[gP]
 | n+1=>by simp[gP,zz z n,Nat.succ_mul];omega
theorem lO {t e:TypeId}{n b:Nat}(h:iU P t=some (e,n,b)):∃i,P.underlying t=some (.slice e)/\P.info? e=some i/\i.size=n/\i.bytes=b:=by
 unfold iU at h;grind
theorem ra {e:TypeId}{z:List AV}(h:(zeroOf P e).bind AV.cells=some z):∃(i:TypeInfo) (v:Value),P.info? e=some i/\i.zero=some v/\(∀(ρ:aM) (w:World),VL ρ w z v.cells.toList)/\∀w:World,(zeroValue e).run P w = .ok v w:=by
 simp only[be]at h;obtain⟨u,h1,h2⟩:=h;unfold zeroOf at h1;split at h1
 . rename_i i hi;split at h1
   . rename_i v hv;exact⟨i,v,hi,hv,fun ρ w=>pf (qS 5 v u h1) h2,fun w=>by simp[zeroValue,tK hi,hv]⟩
   grind
 grind
theorem OV (r:Rel C ρ s a w){t elem:TypeId}{n bb len:Nat}{ps:Array (Nat×Operand)}{z:List AV}{cps:List (Nat×Nat×aO)}(he:iU C.P t=some (elem,n,bb))(hz:(zeroOf C.P elem).bind AV.cells=some z)
 (hc:kc C (fun j=>some (j*n,n)) ps.toList=some cps) (hn0:0<n) (hzn:z.length=n) (hroom:len*n<=2^24) {vs:List (Nat×Nat×AV)} (hv:s.parts cps=some vs) {l:List AV} (hf:kA (gP z len) vs=some l) (hll:l.length=len*n)
 {o:Oper} (ho:o.op = .buildSlice t len ps):cn C a.eval o ρ s.hp w ⟨.sl s.hp.length 0 len n (some len),s.hp++[some (.cells l elem)],[]⟩:=by
 obtain⟨i,hu,hi,rfl,rfl⟩:=lO he;obtain⟨i',zv,hi',hzv,hzl,hzrun⟩:=ra hz;rw[hi]at hi';cases hi';have hzs:zv.cells.size=i.size:=by rw[←hzn,(hzl ρ w).toList]
 have hrep:=zy (hzl ρ w) len;obtain⟨e1,e2⟩:=tN r hc hv;obtain⟨m',h1,h2⟩:=tM (place:=fun j=>some (j*i.size,i.size)) vs _ _ _ l e1 e2 hrep hf;have hms:m'.length=len*i.size:=by rw[←h2.length,hll]
 refine cn.val (v':=.slice (some ⟨w.heap.size,0,none⟩) len len) (w':={ w with heap:=w.heap.push (.cells m'.toArray elem) }) ?_ (tP r.mem elem ac (yY (bj _) aq (by simp[hms])));obtain⟨dst,op,ty,pos,af,gd⟩:=o;simp only at ho;subst ho;have hroom':¬(16777216<len*i.size):=by omega
 have hfill:Instr.fill (fun j=>some (j*i.size,i.size)) ((db (len*i.size)).map (zv.cells[· % zv.cells.size]!)) (ps.map fun p=>(p.1,a.eval p.2)).toList=some m'.toArray:=by
  rw[dh];rw[hzs]at h1;rw[hzs];have e3:((db (len*i.size)).map (zv.cells[· % i.size]!)).toList.toArray=(db (len*i.size)).map (zv.cells[· % i.size]!):=c8;rw[e3]at h1;exact h1
 have hr0:(db 0:Array Nat) = #[]:=rfl;rw[dh]at hfill;by_cases hl0:len*i.size=0
 . have hfill0:Instr.fill (fun j=>some (j*i.size,i.size)) #[] (List.map (fun p=>(p.1,a.eval p.2)) ps.toList)=some m'.toArray:=by
    rw[hl0,hr0]at hfill;simpa using hfill
   simp only[execOp,Instr.buildSlice,bc,bV hu,aW,gZ hi,hl0,hr0];simp[hfill0,newRow]
 . simp only[execOp,Instr.buildSlice,bc,bV hu,aW,gZ hi];have hl00:¬(len=0\/i.size=0):=by rwa [←Nat.mul_eq_zero]
   simp[hroom',hzrun,hfill,newRow]<;>grind
theorem OW (r:Rel C ρ s a w){t elem:TypeId}{n bb:Nat}{lo co:Operand}{z:List AV}(he:iU C.P t=some (elem,n,bb))(hz:(zeroOf C.P elem).bind AV.cells=some z)(hzn:z.length=n)(hn0:0<n)
 {k k':IntKind} {x y:Int} (hl:a.eval lo = .int k x) (hc:a.eval co = .int k' y) (h0:0<=x) (h1:x<=y) (h2:y.toNat*bb<=dO) (h3:y<=2^46) {o:Oper} (ho:o.op = .makeSlice t lo co) :
 cn C a.eval o ρ s.hp w ⟨.sl s.hp.length 0 x.toNat n (some y.toNat),s.hp++[some (.cells (gP z y.toNat) elem)],[]⟩:=by
 obtain⟨i,hu,hi,rfl,rfl⟩:=lO he;obtain⟨i',zv,hi',hzv,hzl,hzrun⟩:=ra hz;rw[hi]at hi';cases hi';have hzs:zv.cells.size=i.size:=by rw[←hzn,(hzl ρ w).toList]
 have hrep:=zy (hzl ρ w) y.toNat;have hlen:=zz z y.toNat;refine cn.val (v':=.slice (some ⟨w.heap.size,0,none⟩) x.toNat y.toNat) (w':={ w with heap:=w.heap.push (.cells ((db (y.toNat*zv.cells.size)).map (zv.cells[· % zv.cells.size]!)) elem) }) ?_
  (tP r.mem elem hrep (by grind[yY]))
 obtain⟨dst,op,ty,pos,af,gd⟩:=o;simp only at ho;subst ho;have hroom:dO=70368744177664:=by decide
 have w1:IntKind.i64.wrap x=x:=IntWalk.i64_in x ac;have w2:IntKind.i64.wrap y=y:=IntWalk.i64_in y ac;have hy:(y.toNat:Int)=y:=by omega
 have hb:¬((281474976710656:Int)<(i.bytes:Int)*y):=by
  have:((y.toNat*i.bytes:Nat):Int)<=70368744177664:=by omega
  rw[Int.natCast_mul,hy,Int.mul_comm]at this;omega
 have hcond:¬(((y<0\/(281474976710656:Int)<(i.bytes:Int)*y)\/x<0)\/y<x):=by omega
 have hr0:(db 0:Array Nat) = #[]:=rfl;simp[execOp,Instr.makeSlice,bV hu,hl,hc,asInt,pd,tK hi,gZ hi,w1,w2,hcond,newRow,hzrun,hzs]<;>grind
theorem OX (r:Rel C ρ s a w){e:TypeId}{xo:Operand}{x:AV}{l:List AV}(hx:V ρ w x (a.eval xo))(hl:x.cells=some l){o:Oper}(ho:o.op = .box e xo) :
 cn C a.eval o ρ s.hp w ⟨.ptr s.hp.length 0,s.hp++[some (.cells l e)],[]⟩:=by
 refine cn.val (v':=.pointer (some ⟨w.heap.size,0,none⟩)) (w':={ w with heap:=w.heap.push (.cells (a.eval xo).cells e) }) ?_ (tP r.mem e (pf hx hl) yZ);obtain⟨dst,op,ty,pos,af,gd⟩:=o;simp only at ho;subst ho;rfl
theorem OY (r:Rel C ρ s a w){e:TypeId}{z:List AV}(hz:(zeroOf C.P e).bind AV.cells=some z){o:Oper}(ho:o.op = .alloc e) :
 cn C a.eval o ρ s.hp w ⟨.ptr s.hp.length 0,s.hp++[some (.cells z e)],[]⟩:=by
 obtain⟨i,zv,hi,hzv,hzl,hzrun⟩:=ra hz;refine cn.val (v':=.pointer (some ⟨w.heap.size,0,none⟩)) (w':={ w with heap:=w.heap.push (.cells zv.cells e) }) ?_ (tP r.mem e (hzl ρ w) yZ);obtain⟨dst,op,ty,pos,af,gd⟩:=o;simp only at ho;subst ho;simp[execOp,Instr.alloc,hzrun,newVar,newRow]
theorem OZ (r:Rel C ρ s a w){t:TypeId}{n:Nat}{ag:Bool}{xo:Operand}{x:AV}(hs:shapeOf C.P t=some (n,ag))(hx:V ρ w x (a.eval xo)){l:List AV}(hl:fV s.hp x=some l){v:AV}(hv:partOf l 0 n ag=some v)
 {o:Oper} (ho:o.op = .load t xo):cn C a.eval o ρ s.hp w ⟨v,s.hp,[]⟩:=by
 obtain⟨c,off,g,he,hg⟩:=readable r.mem hx hl;obtain⟨v',h1,h2⟩:=Gb hs hg hv;refine cn.val (v':=v') (w':=w) ?_ (iy r.mem h2);obtain⟨dst,op,ty,pos,af,gd⟩:=o;simp only at ho;subst ho;simp[execOp,Instr.loadAt,he,Instr.sureAddr,h1]
theorem Pa (r:Rel C ρ s a w){t:TypeId}{n:Nat}{ag:Bool}{xo yo:Operand}{b off:Nat}{y:AV}{new l:List AV}{el:TypeId}(hs:shapeOf C.P t=some (n,ag))(hx:V ρ w (.ptr b off) (a.eval xo))(hy:V ρ w y (a.eval yo))
 (hn:y.cells=some new) (hb:s.hp.at b=some (.cells l el)) (hnn:new.length=n) (hin:off+n<=l.length) (hone:new.all cI=true) {o:Oper} (ho:o.op = .store t xo yo) :
 cn C a.eval o ρ s.hp w ⟨cG,s.hp.put b (some (.cells (overwrite l off new) el)),[b]⟩:=by
 obtain⟨i,d0,hi,hd0,rfl,rfl⟩:=qT hs;obtain⟨h0,hbr⟩:=kJ r.mem hb;have hyv:=pf hy hn;generalize hxv:a.eval xo=xv at hx;cases hx with
 | ptr _ hρ=>
  rename_i c d;obtain⟨w',h1,m1,x1⟩:=qZ (off:=off) r.mem hb hρ hyv ac (fun cs e fr hq=>by
   rcases hbr with ⟨c',d',cs',fr',g1,g2,g3,_⟩|⟨g1,_⟩
   . rw[hρ]at g1;cases g1;rw[hq]at g2;cases g2;have:=g3.1;omega
   grind) hone
  refine cn.skip (w':=w') ?_ ⟨ρ,V.undef,m1,x1⟩;obtain⟨dst,op,ty,pos,af,gd⟩:=o;simp only at ho;subst ho;have hsz:(a.eval yo).cells.size=i.size:=by rw[←hyv.toList,hnn]
  simp[execOp,Instr.storeAt,hxv,Instr.sureAddr,storeVar,gZ hi,hsz,h1]
 | eM _ _ _ hρ=>rcases hbr.live with ⟨_,_,hl'⟩|hl'|hl' <;> (rw[hρ]at hl';cases hl')
end Go.Ab
namespace Go.Ab
variable {t:TypeId}
variable {P:Program} {gl:Nat->Option AV} {ρ:aM} {w:World} {h:ae} {C:Cx} {s:St} {a:Act}
theorem bytes_beq (x y:List UInt8):((cd x.toArray) == (cd y.toArray))=(x == y):=by
 have e:∀x y:ByteArray,(x == y)=(x.data == y.data):=fun _ _=>rfl<;>grind
theorem lQ {c:Nat}{o:Obj}(h:w.heap[c]? = some o)(ho:∀cs e fr,o≠.cells cs e fr):(getObj c).run P w = .ok o w:=by
 cases o <;> first|exact absurd rfl (ho _ _ _)|simp[getObj,Sem.run,h]
theorem mW {c:Nat}{o o':Obj}(h:w.heap[c]? = some o)(ho:∀cs e fr,o≠.cells cs e fr):(setObj c o').run P w = .ok () (w.dE c o'):=by
 cases o <;> first|exact absurd rfl (ho _ _ _)|simp[setObj,Sem.run,h,World.dE]
theorem zA (m:Mem P gl ρ h w){b:Nat}{es:List (AV×AV)}(hb:h.at b=some (.map es)):h[b]? = some (some (.map es))/\∃c ms clk,ρ b = .live c 0/\w.heap[c]? = some (.map ms clk)/\es.length=ms.size /\
      ∀(i:Nat) kx vx m,es[i]? = some (kx,vx)->ms[i]? = some m->V ρ w kx m.key/\V ρ w vx m.val:=
 ⟨pj hb,m.dm b _ (pj hb)⟩
def zB:iF->TypeDesc->Prop
 | .int,d=>∃k,d = .int k
 | .str,d=>d = .string
theorem Gg {k:iF}(hk:keyOf P t=some k):∃d,P.underlying t=some d/\zB k d:=by
 unfold keyOf at hk;split at hk
 . rename_i kk hu;cases hk;exact⟨_,hu,_,rfl⟩
 . rename_i hu;cases hk;exact⟨_,hu,rfl⟩
 grind
theorem tQ {k:iF}(hk:keyOf P t=some k)(e:Bool)(v:Value):(Instr.checkKey e 10000 t v).run P w = .ok () w:=by
 obtain⟨d,hu,hd⟩:=Gg hk;unfold Instr.checkKey;rw[bc,bV hu,aW];cases k
 . obtain⟨kk,rfl⟩:=hd;simp
 . cases hd;simp
theorem Pb {kt:iF}{d:TypeDesc}(hd:zB kt d){k kx:AV}(hk:kt.ok k=true){k' kx':Value}(h1:V ρ w k k')(h2:V ρ w kx kx'){r:Bool}(he:qN k kx=some r) :
 Instr.sameNow d k' kx'=some r/\(r=true->kx'=k'/\Instr.sameBits 10000 kx' k'=true):=by
 cases kt
 . obtain⟨kk,rfl⟩:=hd;cases k <;> simp only[iF.ok,b5]at hk;cases kx <;> simp only[qN,reduceCtorEq,Option.ite_none_right_eq_some,b6.injEq]at he;obtain⟨rfl,rfl⟩:=he;cases h1;cases h2;refine⟨by simp[Instr.sameNow],fun hr=>?_⟩;simp only[beq_iff_eq]at hr;subst hr;exact⟨rfl,by simp[Instr.sameBits]⟩
 . cases hd;cases k <;> simp only[iF.ok,b5]at hk;cases kx <;> simp only[qN,reduceCtorEq,b6.injEq]at he;subst he;cases h1;cases h2;refine⟨by simp only[Instr.sameNow,bytes_beq],fun hr=>?_⟩;simp only[beq_iff_eq]at hr;subst hr;exact⟨rfl,by simp only[Instr.sameBits,bytes_beq,beq_self_eq_true]⟩
def zC (ρ:aM)(w:World)(ms:List MapEntry)(k':Value)(i:Nat):Option (Nat×AV)->Option (Nat×Value)->Prop
 | none,none=>True
 | some (j,v),some (j',v')=>j=j'/\i<=j/\V ρ w v v'/\∃e,ms[j-i]? = some e/\e.key=k'/\Instr.sameBits 10000 e.key k'=true
 | _,_=>False
theorem Gh {kt:iF}{d:TypeDesc}(hd:zB kt d){k:AV}(hk:kt.ok k=true){k':Value}(h1:V ρ w k k') :
 ∀(es:List (AV×AV)) (ms:List MapEntry) (i:Nat) (r:Option (Nat×AV)),es.length=ms.length ->
  (∀(i:Nat) kx vx m,es[i]? = some (kx,vx)->ms[i]? = some m->V ρ w kx m.key/\V ρ w vx m.val)->kB k es i=some r ->
  ∃r',Instr.findNow d k' ms i=some r'/\zC ρ w ms k' i r r'
 | [],ms,i,r,hl,_,hf=>by
  cases ms with
  | nil=>simp only[kB,b6.injEq]at hf;subst hf;exact⟨none,rfl,trivial⟩
  | cons _ _=>simp at hl
 | (kx,vx)::es,ms,i,r,hl,hv,hf=>by
  cases ms with
  | nil=>simp at hl
  | cons m ms=>
   obtain⟨e1,e2⟩:=hv 0 kx vx m rfl rfl;simp only[kB]at hf;cases he:qN k kx with
   | none=>grind
   | some b=>
    obtain⟨g1,g2⟩:=Pb hd hk h1 e1 he;cases b with
    | true=>
     simp only[he,b6.injEq]at hf;subst hf;exact⟨some (i,m.val),by simp[Instr.findNow,g1],rfl,bj _,e2,m,aq,g2 rfl⟩
    | false=>
     simp only[he]at hf;obtain⟨r',h3,h4⟩:=Gh hd hk h1 es ms (i+1) r aw (fun i kx vx m hx hm=>hv (i+1) kx vx m aw aw) hf;refine⟨r',by simp[Instr.findNow,g1,h3],?_⟩;cases r with
     | none=>cases r' with
       | none=>trivial
       | some _=>exact h4
     | some q=>
      cases r' with
      | none=>exact h4
      | some q'=>
       obtain⟨a1,a2,a3,e,a4,a5⟩:=h4;refine⟨a1,ac,a3,e,?_,a5⟩<;>grind
theorem zD {kt:iF}(hk:keyOf P t=some kt){k:AV}(bT:kt.ok k=true){k':Value}(h1:V ρ w k k'){es:List (AV×AV)}{ms:List MapEntry}(hl:es.length=ms.length)
 (hv:∀(i:Nat) kx vx m,es[i]? = some (kx,vx)->ms[i]? = some m->V ρ w kx m.key/\V ρ w vx m.val) {r:Option (Nat×AV)} (hf:kB k es 0=some r) :
 ∃r',(Instr.findKey t k' ms).run P w = .ok r' w/\zC ρ w ms k' 0 r r':=by
 obtain⟨d,hu,hd⟩:=Gg hk;obtain⟨r',h2,h3⟩:=Gh hd bT h1 es ms 0 r hl hv hf;refine⟨r',?_,h3⟩;unfold Instr.findKey;simp[bV hu,h2]
def lS (z:AV)(q:Option (Nat×AV)):AV:=match q with|some (_,v)=>v|none=>z
theorem Pc (r:Rel C ρ s a w){t kt' et:TypeId}{kt:iF}{z:AV}{xo io:Operand}{ok:Bool}(hu:C.P.underlying t=some (.map kt' et))(hk:keyOf C.P kt'=some kt)(hz:zeroOf C.P et=some z)
 {m k:AV} (hm:V ρ w m (a.eval xo)) (hkv:V ρ w k (a.eval io)) (bT:kt.ok k=true) {es:List (AV×AV)} (hes:m = .eO/\es=[]\/∃b,m = .map b/\s.hp.at b=some (.map es))
 {q:Option (Nat×AV)} (hf:kB k es 0=some q) {o:Oper} (ho:o.op = .lookup t xo io ok) :
 cn C a.eval o ρ s.hp w ⟨if ok then .ay [lS z q,.bool q.isSome] else lS z q,s.hp,[]⟩:=by
 obtain⟨dst,op,ty,pos,af,gd⟩:=o;simp only at ho;subst ho;obtain⟨zv,hz1,hz2⟩:=tO (w:=w) (ρ:=ρ) hz;have hrun:∃v',(Instr.lookup t (a.eval xo) (a.eval io) ok).run C.P w = .ok v' w/\V ρ w (if ok then .ay [lS z q,.bool q.isSome] else lS z q) v':=by
  have tail:∀(q':Option (Nat×Value)) (ms:List MapEntry),zC ρ w ms (a.eval io) 0 q q'->∃v',((match q' with
   | some (_,v)=>do let p ←(pure (v,true):Sem (Value×Bool));pure (if ok then .tuple #[p.1,.bool p.2] else p.1)
   | none=>do let z ←zeroValue et;let p ←(pure (z,false):Sem (Value×Bool));pure (if ok then .tuple #[p.1,.bool p.2] else p.1):Sem Value)).run C.P w = .ok (if ok then .tuple #[v',.bool q.isSome] else v') w/\V ρ w (lS z q) v':=by
   intro q' ms h2;cases q with
   | none=>
    cases q' with
    | some _=>exact h2.elim
    | none=>exact⟨zv,by simp[hz1],hz2⟩
   | some p=>
    cases q' with
    | none=>exact h2.elim
    | some p'=>exact⟨p'.2,aq,h2.2.2.1⟩
  have fin:∀(v':Value),V ρ w (lS z q) v'->V ρ w (if ok then .ay [lS z q,.bool q.isSome] else lS z q) (if ok then .tuple #[v',.bool q.isSome] else v'):=by
   intro v' hv;cases ok
   . exact hv
   . exact V.iG (VL.cons hv (VL.cons (.bool _) .nil))
  unfold Instr.lookup;rcases hes with ⟨rfl,rfl⟩|⟨b,rfl,hb⟩
  . generalize hxv:a.eval xo=xv at hm;cases hm;obtain⟨q',h1,h2⟩:=zD (P:=C.P) (es:=[]) (ms:=[]) hk bT hkv rfl aq hf;obtain⟨v',t1,t2⟩:=tail q' _ h2;refine⟨_,?_,fin v' t2⟩;simp only[bc,bV hu,aW,ci,tQ hk,h1]<;>grind
  . obtain⟨_,c,ms,clk,g1,g2,g3,g4⟩:=zA r.mem hb;generalize hxv:a.eval xo=xv at hm;cases hm with
    | map hρ=>
     rw[hρ]at g1;cases g1;obtain⟨q',h1,h2⟩:=zD (P:=C.P) (ms:=ms.toList) hk bT hkv ac aw hf;obtain⟨v',t1,t2⟩:=tail q' _ h2;refine⟨_,?_,fin v' t2⟩;simp only[bc,bV hu,aW,ci,tQ hk,h1,lQ g2 aq]<;>grind
    | iw _ hρ=>grind
 obtain⟨v',h3,h4⟩:=hrun;refine cn.val (v':=v') (w':=w) ?_ (iy r.mem h4);simp[execOp,h3]
def lT (es:List (AV×AV))(k v:AV)(q:Option (Nat×AV)):List (AV×AV):=match q with|some (j,_)=>es.set j (k,v)|none=>es++[(k,v)]
theorem tS (r:Rel C ρ s a w){t kt' et:TypeId}{kt:iF}{mo io xo:Operand}(hu:C.P.underlying t=some (.map kt' et))(hk:keyOf C.P kt'=some kt)
 {k v:AV} {b:Nat} (hm:V ρ w (.map b) (a.eval mo)) (hkv:V ρ w k (a.eval io)) (hv:V ρ w v (a.eval xo)) (bT:kt.ok k=true) {es:List (AV×AV)} (hb:s.hp.at b=some (.map es))
 {q:Option (Nat×AV)} (hf:kB k es 0=some q) {o:Oper} (ho:o.op = .mapUpdate t mo io xo\/o.op = .insert t mo io xo) :
 cn C a.eval o ρ s.hp w ⟨cG,s.hp.put b (some (.map (lT es k v q))),[b]⟩:=by
 obtain⟨h0,c,ms,clk,g1,g2,g3,g4⟩:=zA r.mem hb;have hrun:∃ms' clk',(Instr.mapUpdate t (a.eval mo) (a.eval io) (a.eval xo)).run C.P w = .ok () (w.dE c (.map ms' clk'))/\(lT es k v q).length=ms'.size /\
  ∀(i:Nat) kx vx m,(lT es k v q)[i]? = some (kx,vx)->ms'[i]? = some m->V ρ w kx m.key/\V ρ w vx m.val:=by
  unfold Instr.mapUpdate;generalize hxv:a.eval mo=xv at hm;cases hm with
  | map hρ=>
   rw[hρ]at g1;cases g1;obtain⟨q',h1,h2⟩:=zD (P:=C.P) (ms:=ms.toList) hk bT hkv ac aw hf;cases q with
   | none=>
    cases q' with
    | some _=>exact h2.elim
    | none=>
     refine⟨ms.push { key:=a.eval io,val:=a.eval xo,born:=clk },clk+1,?_,by simp[lT,g3],?_⟩
     . simp only[bc,bV hu,aW,tQ hk,h1,lQ g2 aq];grind[mW]
     . intro i kx vx m hx hm;simp only[lT]at hx<;>grind
   | some p=>
    cases q' with
    | none=>exact h2.elim
    | some p'=>
     obtain⟨j,pv⟩:=p;obtain⟨j',pv'⟩:=p';obtain⟨e1,_,_,e,e3,e4,e5⟩:=h2;have e1:j=j':=e1;subst e1;have e3:ms[j]? = some e:=by simpa using e3
     have hj:j<ms.size:=(b8.1 e3).1;refine⟨ms.modify j fun e=>{ e with key:=a.eval io,val:=a.eval xo },clk,?_,by simp[lT,g3],?_⟩
     . simp only[bc,bV hu,aW,tQ hk,h1,lQ g2 aq];simp only[e3,d8,Option.getD_some,Instr.keyThatStays,e5,if_true,ci,aW];grind[mW]
     . intro i kx vx m hx hm;rw[Array.getElem?_modify]at hm;simp only[lT]at hx<;>grind
  | iw _ hρ=>grind
 obtain⟨ms',clk',h1,h2,h3⟩:=hrun;have hO:∀cs0 e0 fr0,w.heap[c]? = some (.cells cs0 e0 fr0)->∃cs' fr',Obj.map ms' clk' = .cells cs' e0 fr'/\cs'.size=cs0.size:=by
  intro _ _ _ hq;rw[g2]at hq;cases hq
 have x:=Ext.write r.mem h0 g1 (some (.map (lT es k v q))) (.map ms' clk') hO;refine cn.skip (w':=w.dE c (.map ms' clk')) ?_ ⟨ρ,V.undef,Mem.write r.mem h0 g1 _ _ hO ?_,x⟩
 . obtain⟨dst,op,ty,pos,af,gd⟩:=o;simp only at ho;rcases ho with rfl|rfl <;> simp[execOp,h1]
 . intro o' ho';cases ho';exact⟨c,ms',clk',g1,mU aw,h2,fun i kx vx m hx hm=>let ⟨a1,a2⟩:=h3 i kx vx m hx hm;⟨a1.mono x,a2.mono x⟩⟩
theorem Pd (r:Rel C ρ s a w){t:TypeId}{o:Oper}(ho:o.op = .makeMap t none):cn C a.eval o ρ s.hp w ⟨.map s.hp.length,s.hp++[some (.map [])],[]⟩:=by
 have x:=Ext.alloc r.mem (some (.map [])) (.map #[] 0) (.live w.heap.size 0) aq;refine cn.val (v':=.map (some w.heap.size)) (w':={ w with heap:=w.heap.push (.map #[] 0) }) ?_ ⟨_,.map aq,Mem.alloc r.mem _ _ _ aq ?_,x⟩
 . obtain⟨dst,op,ty,pos,af,gd⟩:=o;simp only at ho;subst ho;rfl
 . intro o' ho';cases ho';exact⟨w.heap.size,#[],0,aM.fZ _ _ _,aq,rfl,aq⟩
theorem Pe (r:Rel C ρ s a w){t:TypeId}{xo:Operand}(hu:C.P.underlying t=some .string){u:List UInt8}(hx:V ρ w (.str u) (a.eval xo)){o:Oper}(ho:o.op = .range t xo) :
 cn C a.eval o ρ s.hp w ⟨.ptr s.hp.length 0,s.hp++[some (.iter u 0)],[]⟩:=by
 have x:=Ext.alloc r.mem (some (.iter u 0)) (.stringIter ⟨u.toArray⟩ 0) (.live w.heap.size 0) aq;refine cn.val (v':=.pointer (some ⟨w.heap.size,0,none⟩)) (w':={ w with heap:=w.heap.push (.stringIter ⟨u.toArray⟩ 0) }) ?_ ⟨_,yZ,Mem.alloc r.mem _ _ _ aq ?_,x⟩
 . obtain⟨dst,op,ty,pos,af,gd⟩:=o;simp only at ho;subst ho;simp[execOp,Instr.range,bV hu,hx.jG]
 . intro o' ho';cases ho';exact⟨w.heap.size,aM.fZ _ _ _,aq⟩
theorem Pf (r:Rel C ρ s a w){xo:Operand}{b pos:Nat}{t:List UInt8}(hx:V ρ w (.ptr b 0) (a.eval xo))(hb:s.hp.at b=some (.iter t pos)){o:Oper}(ho:o.op = .next xo true) :
 cn C a.eval o ρ s.hp w (if pos<t.length then ⟨.ay [.bool true,.int .i64 pos,.int .i32 (Utf8.decode ⟨t.toArray⟩ pos).1],s.hp.put b (some (.iter t (pos+(Utf8.decode ⟨t.toArray⟩ pos).2))),[b]⟩ else ⟨.ay [.bool false],s.hp,[]⟩):=by
 have h0:=pj hb;obtain⟨c,g1,g2⟩:=r.mem.dm b _ h0;obtain⟨dst,op,ty,ps,af,gd⟩:=o;simp only at ho;subst ho;generalize hxv:a.eval xo=xv at hx;cases hx with
 | ptr _ hρ=>
  rw[hρ]at g1;cases g1;have hsz:(cd t.toArray).size=t.length:=by simp[c7]
  by_cases hp:pos<t.length
  . rw[if_pos hp];have hO:∀cs0 e0 fr0,w.heap[c]? = some (.cells cs0 e0 fr0)->∃cs' fr',Obj.stringIter ⟨t.toArray⟩ (pos+(Utf8.decode ⟨t.toArray⟩ pos).2) = .cells cs' e0 fr'/\cs'.size=cs0.size:=by
     intro _ _ _ hq;rw[g2]at hq;cases hq
    have x:=Ext.write r.mem h0 hρ (some (.iter t (pos+(Utf8.decode ⟨t.toArray⟩ pos).2))) (.stringIter ⟨t.toArray⟩ (pos+(Utf8.decode ⟨t.toArray⟩ pos).2)) hO;refine cn.val (v':=.tuple #[.bool true,goInt pos,.int .i32 (Utf8.decode ⟨t.toArray⟩ pos).1]) (w':=w.dE c (.stringIter ⟨t.toArray⟩ (pos+(Utf8.decode ⟨t.toArray⟩ pos).2))) ?_
     ⟨ρ,V.iG (.cons (.bool _) (.cons (.int _ _) (.cons (.int _ _) .nil))),Mem.write r.mem h0 hρ _ _ hO ?_,x⟩
    . simp[execOp,Instr.next,hxv,lQ g2,hsz,hp,mW g2]
    . intro o' ho';cases ho';exact⟨c,hρ,mU aw⟩
  . rw[if_neg hp];refine cn.val (v':=.tuple #[.bool false]) (w':=w) ?_ (iy r.mem (V.iG (.cons (.bool _) .nil)));simp[execOp,Instr.next,hxv,lQ g2,hsz,hp]
 | eM _ _ _ hρ=>grind
end Go.Ab
namespace Go.Ab
variable {e:TypeId}
variable {P:Program} {gl:Nat->Option AV} {ρ:aM} {w:World} {h:ae} {C:Cx} {s:St} {a:Act}
theorem V.Pg {x:AV}{x':Value}(hx:V ρ w x x'){l:List AV}{n:Nat}(hs:gN h x=some (l,n)):(∃s,x = .str s)\/∃a c,x' = .slice a n c:=by
 cases x <;> simp only[gN,reduceCtorEq,b6.injEq,jN.injEq]at hs
 case str s=>simp
 case ab=>obtain⟨rfl,rfl⟩:=hs;cases hx;simp
 case vs=>obtain⟨rfl,rfl⟩:=hs;cases hx <;> exact .inr ⟨_,_,rfl⟩
 case sl b off len esz cap=>
  split at hs
  . simp only[az,jN.injEq]at hs;obtain⟨_,_,rfl,rfl⟩:=hs;cases hx <;> exact .inr ⟨_,_,rfl⟩
  . split at hs
    . rename_i hn;subst hn;cases hs;cases hx <;> exact .inr ⟨_,_,rfl⟩
    grind
theorem zE:∀(l:List AV) (t:List UInt8) (m:List Value),bytesOf l=some t->VL ρ w l m->∃ns:List Int,m=ns.map (jj .u8)/\t=ns.map fun n=>c6 n.toNat
 | [],t,m,h,hv=>by
  simp only[bytesOf,b6.injEq]at h;subst h;exact⟨[],hv.jF,rfl⟩
 | x::l,t,m,h,hv=>by
  obtain⟨y,m',rfl,h1,h2⟩:=hv.cons_inv;cases x <;> first|(simp only[bytesOf,reduceCtorEq]at h;done)|skip
  rename_i k n;cases k <;> first|(simp only[bytesOf,reduceCtorEq]at h;done)|skip
  simp only[bytesOf]at h;split at h
  . rename_i t' ht;cases h;obtain⟨ns,rfl,rfl⟩:=zE l t' m' ht h2;cases h1;exact⟨n::ns,rfl,rfl⟩
  . cases h
theorem fold_push (ns:List Int):∀r:ByteArray,ns.foldl (fun r n=>r.push (c6 n.toNat)) r=⟨r.data++(ns.map fun n=>c6 n.toNat).toArray⟩:=by
 induction ns<;>simp_all
theorem Ph (r:Rel C ρ s a w){src dst e:TypeId}{xo:Operand}(hs:C.P.underlying src=some (.slice e))(hd:C.P.underlying dst=some .string)(he:C.P.underlying e=some (.int .u8))
 {x:AV} (hx:V ρ w x (a.eval xo)) (hns:∀t,x≠.str t) {l:List AV} {n:Nat} (hl:gN s.hp x=some (l,n)) (hln:l.length=n) {t:List UInt8} (ht:bytesOf l=some t)
 {o:Oper} (ho:o.op = .convert src dst xo):cn C a.eval o ρ s.hp w ⟨.str t,s.hp,[]⟩:=by
 obtain⟨d,op,ty,pos,af,gd⟩:=o;simp only at ho;subst ho;refine cn.val (v':=.string ⟨t.toArray⟩) (w':=w) ?_ (iy r.mem (.str t));obtain⟨_,hf⟩:=lM (size:=1) r.mem hx hl ac;obtain⟨cs,h1,h2⟩:=hf n (bj _);rcases hx.Pg hl with ⟨u,hu⟩|⟨ad,c,hx'⟩
 . grind
 . rw[hx']at h1;rw[i9,←hln,d6]at h2;obtain⟨ns,rfl,rfl⟩:=zE l t cs ht h2;have hrun:(convert src dst (a.eval xo)).run C.P w = .ok (.string ⟨(ns.map fun n=>c6 n.toNat).toArray⟩) w:=by
    rw[hx'];rw[run_convert_bytes_string w src dst e ad n c hs he hd];cases ad with
    | none=>
     simp only[Builtin.firstCells,ci,Result.ok.injEq,and_true]at h1;have:ns=[]:=by
      cases ns with
      | nil=>rfl
      | cons _ _=>simp at h1
     subst this;rfl
    | some ad=>
     simp only[Builtin.firstCells,i9]at h1;rw[run_bytesToString w ad n c ns h1,fold_push];simp
   simp[execOp,hrun]
theorem Gi (r:Rel C ρ s a w){t kt et ty:TypeId}{x:AV}{x':Value}(hu:C.P.underlying t=some (.map kt et))(hx:V ρ w x x'){n:Nat}(hn:x = .eO/\n=0\/∃b es,x = .map b/\s.hp.at b=some (.map es)/\es.length=n) :
 (Builtin.len_ #[t] ty #[x']).run C.P w = .ok (.int .i64 n) w:=by
 rcases hn with ⟨rfl,rfl⟩|⟨b,es,rfl,hb,rfl⟩
 . cases hx;simp[Builtin.len_,bV hu,goInt]
 . obtain⟨_,c,ms,clk,g1,g2,g3,_⟩:=zA r.mem hb;cases hx with
   | map hρ=>rw[hρ]at g1;cases g1;simp[Builtin.len_,bV hu,lQ g2,g3,goInt]
   | iw _ hρ=>grind
theorem Pj (r:Rel C ρ s a w){t u ty elem:TypeId}{n bb:Nat}(he:iU C.P t=some (elem,n,bb)){x y:AV}{x' y':Value}(hx:V ρ w x x')(hy:V ρ w y y')
 {src:List AV} {k:Nat} (hsrc:gN s.hp y=some (src,k)) (hl:src.length=k*n) (hone:src.all cI=true) {b off len:Nat} {cap:Option Nat} {l:List AV} {el:TypeId} (hxe:x = .sl b off len n cap) (hb:s.hp.at b=some (.cells l el))
 (hin:off+min k len*n<=l.length):∃w',(Builtin.copy_ #[t,u] ty #[x',y']).run C.P w = .ok (.int .i64 ((min k len:Nat):Int)) w'/\fe C.P C.gl ρ s.hp w ⟨.int .i64 ((min k len:Nat):Int),s.hp.put b (some (.cells (overwrite l off (src.take (min k len*n))) el)),[b]⟩ (.int .i64 ((min k len:Nat):Int)) w':=by
 subst hxe;obtain⟨i,hu,hi,rfl,rfl⟩:=lO he;obtain⟨h1,h2⟩:=lM r.mem hy hsrc hl;obtain⟨cs,h3,h4⟩:=h2 (min k len) ac;obtain⟨h0,hbr⟩:=kJ r.mem hb;have h3':(Builtin.firstCells i.size (Nat.min k len) y').run C.P w = .ok cs.toArray w:=h3;cases hx with
 | @sl _ c d _ _ _ capC _ hρ hlc hcap hs=>
  have hone':(src.take (min k len*i.size)).all cI=true:=by
   rw[List.all_eq_true]at hone ⊢;exact aw
  have htl:(src.take (min k len*i.size)).length<=min k len*i.size:=by rw[dF];exact ac
  obtain⟨w',g1,m1,x1⟩:=qZ (off:=off) r.mem hb hρ h4 ac (fun cs e fr hq=>by
   rcases hbr with ⟨c',d',cs',fr',q1,q2,q3,_⟩|⟨q1,_⟩
   . rw[hρ]at q1;cases q1;rw[hq]at q2;cases q2;have:=q3.1;omega
   grind) hone'
  refine⟨w',?_,ρ,.int _ _,m1,x1⟩;simp[Builtin.copy_,bV hu,h1,gZ hi,h3',g1,goInt]
 | fX hρ=>
  rcases hbr with ⟨c',d',cs',fr',q1,q2,q3,_⟩|⟨q1,rfl⟩
  . grind
  . have hz:min k 0=0:=Nat.min_zero _;refine⟨w,?_,ρ,.int _ _,?_,?_⟩
    . have zF:(Builtin.firstCells i.size 0 y').run C.P w = .ok cs.toArray w:=by rw[hz]at h3;exact h3
      simp[Builtin.copy_,bV hu,h1,gZ hi,zF,goInt]
    . have:s.hp.put b (some (.cells (overwrite [] 0 (src.take (min k 0*i.size))) el))=s.hp:=by
       unfold ae.put overwrite;rw[hz];simp;apply f8;intro j;rw[gc];split
       . grind
       . rfl
      rw[this];exact r.mem
    . have:s.hp.put b (some (.cells (overwrite [] 0 (src.take (min k 0*i.size))) el))=s.hp:=by
       unfold ae.put overwrite;rw[hz];simp;apply f8;intro j;rw[gc];split
       . grind
       . rfl
      grind[Ext.refl]
 | fm _ _ hρ _ _=>rcases hbr.live with ⟨_,_,hl'⟩|hl'|hl' <;> (rw[hρ]at hl';cases hl')
 | fJ hρ=>rcases hbr.live with ⟨_,_,hl'⟩|hl'|hl' <;> (rw[hρ]at hl';cases hl')
 | fY a hρ=>rcases hbr.live with ⟨_,_,hl'⟩|hl'|hl' <;> (rw[hρ]at hl';cases hl')
theorem Gj {z:List AV}(hz:z.all cI=true):∀n,(gP z n).all cI=true
 | 0=>rfl
 | n+1=>by rw[gP,List.all_append,hz,Gj hz n];rfl
theorem Pk (r:Rel C ρ s a w){t ty elem:TypeId}{n bb:Nat}(he:iU C.P t=some (elem,n,bb)){z:List AV}(hz:(zeroOf C.P elem).bind AV.cells=some z)(hzn:z.length=n)(hone:z.all cI=true){x':Value}{b off len:Nat}{cap:Option Nat}{l:List AV}{el:TypeId}(hx:V ρ w (.sl b off len n cap) x')(hb:s.hp.at b=some (.cells l el))(hlen:0<len)
 (hin:off+len*n<=l.length):∃w',(Builtin.clear_ #[t] ty #[x']).run C.P w = .ok (.tuple #[]) w'/\fe C.P C.gl ρ s.hp w ⟨.ay [],s.hp.put b (some (.cells (overwrite l off (gP z len)) el)),[b]⟩ (.tuple #[]) w':=by
 obtain⟨i,hu,hi,rfl,rfl⟩:=lO he;obtain⟨i',zv,hi',hzv,hzl,hzrun⟩:=ra hz;rw[hi]at hi';cases hi';have hzs:zv.cells.size=i.size:=by rw[←hzn,(hzl ρ w).toList]
 have hrep:=zy (hzl ρ w) len;have hrl:=zz z len;rw[hzn]at hrl;obtain⟨h0,hbr⟩:=kJ r.mem hb;cases hx with
 | @sl _ c d _ _ _ capC _ hρ hlc hcap hs=>
  obtain⟨w',g1,m1,x1⟩:=qZ (off:=off) r.mem hb hρ hrep ac (fun cs e fr hq=>by
   rcases hbr with ⟨c',d',cs',fr',q1,q2,q3,_⟩|⟨q1,_⟩
   . rw[hρ]at q1;cases q1;rw[hq]at q2;cases q2;have:=q3.1;omega
   grind) (Gj hone len)
  refine⟨w',?_,ρ,.iG .nil,m1,x1⟩;obtain⟨m,rfl⟩:∃m,len=m+1:=⟨len-1,ac⟩;simp only[Builtin.clear_];simp[bV hu,hzrun,Builtin.zeroCells]<;>simp_all
 | fX hρ=>omega
 | fm _ _ hρ _ _=>rcases hbr.live with ⟨_,_,hl'⟩|hl'|hl' <;> (rw[hρ]at hl';cases hl')
 | fJ hρ=>omega
 | fY a hρ=>omega
theorem Gk {P:Program}{t ty:TypeId}(hu:P.underlying t=some (.slice e)){w:World}{a:Option Addr}{c:Nat}:(Builtin.clear_ #[t] ty #[.slice a 0 c]).run P w = .ok (.tuple #[]) w:=by
 cases a <;> simp[Builtin.clear_,bV hu]
theorem Pm (r:Rel C ρ s a w){t u ty elem:TypeId}{n bb:Nat}(he:iU C.P t=some (elem,n,bb)){y:AV}{y':Value}(hy:V ρ w y y')
 {src:List AV} {k:Nat} (hsrc:gN s.hp y=some (src,k)) (hl:src.length=k*n):(Builtin.copy_ #[t,u] ty #[.slice none 0 0,y']).run C.P w = .ok (.int .i64 0) w:=by
 obtain⟨i,hu,hi,rfl,rfl⟩:=lO he;obtain⟨h1,h2⟩:=lM r.mem hy hsrc hl;obtain⟨cs,h3,h4⟩:=h2 0 (f7 _);simp[Builtin.copy_,bV hu,h1,gZ hi,h3,goInt]
theorem Pn (r:Rel C ρ s a w){t e:TypeId}{n:Nat}{i:TypeInfo}{xo:Operand}{lo hi:Option Operand}(hu:C.P.underlying t=some (.array n e))(hie:C.P.info? e=some i){b o:Nat}(hx:V ρ w (.ptr b o) (a.eval xo))
 {l:List AV} {el:TypeId} (hb:s.hp.at b=some (.cells l el)) (hin:o+n*i.size<=l.length) {la ha:Option AV} (hl:VO ρ w la (lo.map a.eval)) (hh:VO ρ w ha (hi.map a.eval)) {h' l':Nat} (h2:bZ ha n n=some h') (h3:bZ la 0 h'=some l')
 {op:Oper} (ho:op.op = .slice t xo lo hi none):cn C a.eval op ρ s.hp w ⟨if l'<n then .sl b (o+l'*i.size) (h'-l') i.size (some (n-l')) else .vs [] 0 (some 0),s.hp,[]⟩:=by
 obtain⟨d,opp,ty,pos,af,gd⟩:=op;simp only at ho;subst ho;obtain⟨h0,hbr⟩:=kJ r.mem hb;generalize hxv:a.eval xo=xv at hx;cases hx with
 | @ptr _ c d _ hρ=>
  have hrun:=Ov (P:=C.P) (w:=w) (ρ:=ρ) hu hie (a:=⟨c,o+d,none⟩) hl hh h2 h3;have hh':=kH (bj _) h2;have hl':=kH (f7 _) h3;refine cn.val (v':=_) (w':=w) (by simp[execOp,hxv];rw[hrun];rfl) (iy r.mem ?_);rcases hbr with ⟨c',d',cs,fr,q1,q2,q3,_⟩|⟨q1,_⟩
  . rw[hρ]at q1;cases q1;split
    . rename_i hlt;rw[if_neg ac];have hmul:l'*i.size+(n-l')*i.size=n*i.size:=by rw[←g9];congr 1;omega
      have:(Addr.add ⟨c,o+d,none⟩ (l'*i.size))=⟨c,o+l'*i.size+d,none⟩:=by
       unfold Addr.add;split
       . grind
       . grind
      rw[this];exact .sl hρ ac aq ⟨cs,el,fr,q2,by have:=q3.1;omega⟩
    . rename_i hge;have e1:n=l':=by omega
      rw[if_pos e1];rw[show h'-l'=0 from by omega,show n-l'=0 from by omega];exact V.empty aq aq aq
  grind
 | eM _ _ _ hρ=>rcases hbr.live with ⟨_,_,hl'⟩|hl'|hl' <;> (rw[hρ]at hl';cases hl')
theorem Po {α:Type}(x:Array α)(y:α)(f:α->α):(x.push y).modify x.size f=x.push (f y):=by
 grind
theorem Pp (w:World)(e:TypeId)(s:ByteArray):Lib.bytesWorld w e s =
 { w with drawn:=w.drawn+1,heap:=w.heap.push (.cells (Lib.bytesCells w e s) e ((Lib.bytesCells w e s).size,(Lib.bytesCells w e s).size+1)) }:=by
 unfold Lib.bytesWorld jR World.alloc World.drew;grind[Po]
theorem Pq (r:Rel C ρ s a w){src dst e:TypeId}{xo:Operand}(hs:C.P.underlying src=some .string)(hd:C.P.underlying dst=some (.slice e))(he:C.P.underlying e=some (.int .u8))(hne:¬jl C.P e=true)
 {t:List UInt8} (hx:V ρ w (.str t) (a.eval xo)) {o:Oper} (ho:o.op = .convert src dst xo) :
 cn C a.eval o ρ s.hp w ⟨.sl s.hp.length 0 t.length 1 none,s.hp++[some (.cells (t.map fun c=>.int .u8 c.toNat) e)],[]⟩:=by
 obtain⟨d,op,ty,pos,af,gd⟩:=o;simp only at ho;subst ho;have hrun:=Lib.run_convert_string_bytes (P:=C.P) w src dst e ⟨t.toArray⟩ hs hd he;rw[Pp]at hrun;have hge:=grownCap_ge w t.length 0 e;have hsz:(cd t.toArray).size=t.length:=by simp[c7]
 have hcs:(Lib.bytesCells w e ⟨t.toArray⟩).size=grownCap w t.length 0 e:=by
  simp[Lib.bytesCells,hsz];omega
 have md:=r.mem.drew (w.drawn+1);have xd:=Ext.drew s.hp ρ w (w.drawn+1);have x:=Ext.alloc md (some (.cells (t.map fun c=>.int .u8 c.toNat) e)) (.cells (Lib.bytesCells w e ⟨t.toArray⟩) e ((Lib.bytesCells w e ⟨t.toArray⟩).size,(Lib.bytesCells w e ⟨t.toArray⟩).size+1)) (.live w.heap.size 0) aq;refine cn.val (v':=.slice (some ⟨w.heap.size,0,none⟩) t.length (grownCap w t.length 0 e))
  (w':={ w with drawn:=w.drawn+1,heap:=w.heap.push (.cells (Lib.bytesCells w e ⟨t.toArray⟩) e ((Lib.bytesCells w e ⟨t.toArray⟩).size,(Lib.bytesCells w e ⟨t.toArray⟩).size+1)) }) ?_
  ⟨ρ.dT s.hp.length (.live w.heap.size 0),?_,Mem.alloc md _ _ _ aq ?_,xd.trans x⟩
 . have e1:a.eval xo = .string ⟨t.toArray⟩:=hx.jG;simp only[execOp,e1,bc,hrun,aW,ci];rw[hsz]
 . exact .sl (d:=0) aq hge aq ⟨Lib.bytesCells w e ⟨t.toArray⟩,e,((Lib.bytesCells w e ⟨t.toArray⟩).size,(Lib.bytesCells w e ⟨t.toArray⟩).size+1),aq,ac⟩
 . intro o' ho';cases ho';refine .inl ⟨w.heap.size,0,Lib.bytesCells w e ⟨t.toArray⟩,((Lib.bytesCells w e ⟨t.toArray⟩).size,(Lib.bytesCells w e ⟨t.toArray⟩).size+1),aM.fZ _ _ _,aq,⟨aw,fun he=>absurd he hne⟩,fun i hi=>?_,fun i y z hy hz=>?_⟩
   . unfold ip;grind
   . simp only[List.getElem?_map,az]at hy;obtain⟨c,hc,rfl⟩:=hy;have hi:i<t.length:=(aZ.1 hc).1;simp only[Lib.bytesCells,Nat.add_zero]at hz;rw[Array.getElem?_append_left aw]at hz;simp[hc]at hz;subst hz;exact .int _ _
theorem rf (m:Mem P gl ρ h w){b o:Nat}{l:List AV}{e:TypeId}(hb:h.at b=some (.cells l e)){v:Value}(hx:V ρ w (.ptr b o) v) :
 ∃c d cs fr,v = .pointer (some ⟨c,o+d,none⟩)/\ρ b = .live c d/\w.heap[c]? = some (.cells cs e fr)/\Fits P e d l.length cs.size /\
  ∀(i:Nat) x y,l[i]? = some x->cs[i+d]? = some y->V ρ w x y:=by
 obtain⟨h0,hbr⟩:=kJ m hb;cases hx with
 | @ptr _ c d _ hρ=>
  rcases hbr with ⟨c',d',cs,fr,q1,q2,q3,_,q5⟩|⟨q1,_⟩<;>grind
 | eM _ _ _ hρ=>rcases hbr.live with ⟨_,_,hl'⟩|hl'|hl' <;> (rw[hρ]at hl';cases hl')
theorem zG {c:Nat}{cs:Array Value}{fr:Nat×Nat}(h:w.heap[c]? = some (.cells cs e fr)):w.shape? c=some (e,cs.size):=by
 simp[World.shape?,h]
theorem Pr (r:Rel C ρ s a w){op:BinOp}{t:TypeId}{x y:Operand}{u ty:TypeId}{dst:Option Tmp}{pos:String}{af:Array Edge}{gd:Option (Nat×Bool)}(hcm:qQ op=true)(ho:yL C.P t=true){b o:Nat}{l:List AV}{e:TypeId}(hx:V ρ w (.ptr b o) (a.eval x))(hy:V ρ w (.ptr b o) (a.eval y))
 (hb:s.hp.at b=some (.cells l e)) {op':Oper} (hop:op'=⟨dst,.binOp op t x y u,ty,pos,af,gd⟩) :
 cn C a.eval op' ρ s.hp w ⟨.bool (!(op == .neq)),s.hp,[]⟩:=by
 subst hop;unfold yL at ho;split at ho
 . rename_i te hu;obtain⟨j,hj⟩:∃j,C.P.info? te=some j:=by
    unfold jl at ho;grind
   obtain⟨c,d,cs,fr,e1,hρ,_⟩:=rf r.mem hb hx;obtain⟨c',d',cs',fr',e2,hρ',_⟩:=rf r.mem hb hy;rw[hρ]at hρ';cases hρ';have hE:(Op.equal t (a.eval x) (a.eval y)).run C.P w = .ok true w:=by
    rw[e1,e2];have h:∀d':Nat,(Op.equalIn (d'+1) t (.pointer (some ⟨c,o+d,none⟩)) (.pointer (some ⟨c,o+d,none⟩))).run C.P w = .ok true w:=fun d'=>by
     simp[Op.equalIn,bV hu,sizeOf,typeInfo,hj,run_sameAddr_same]
    exact h 9999
   have hg:(eqGuard op t x y (a.eval x) (a.eval y)).run C.P w = .ok () w:=by
    rw[e1,e2];exact(by grind[qX])
   refine cn.val (v':=.bool (!(op == .neq))) (w':=w) ?_ (iy r.mem (.bool _));have hn:pg (a.eval x)=false:=by rw[e1];rfl
   cases op <;> simp only[qQ,b5]at hcm
   . simp[execOp,hg,binOp_eql hn,hE]
   . simp[execOp,hg,binOp_neq hn,hE]
 grind
theorem Ps (r:Rel C ρ s a w){src dst t:TypeId}{i:TypeInfo}{x:Operand}(hs:C.P.underlying src=some (.pointer t))(hd:C.P.underlying dst=some .unsafePointer)(hi:C.P.info? t=some i)(hsz:¬i.size=0)
 {b o:Nat} {l:List AV} {e:TypeId} (hx:V ρ w (.ptr b o) (a.eval x)) (hb:s.hp.at b=some (.cells l e)) (hin:o<l.length) {op:Oper} (ho:op.op = .convert src dst x) :
 cn C a.eval op ρ s.hp w ⟨.ptr b o,s.hp,[]⟩:=by
 obtain⟨dd,oo,ty,pos,af,gd⟩:=op;simp only at ho;subst ho;obtain⟨c,d,cs,fr,e1,hρ,h2,h3,_⟩:=rf r.mem hb hx;have hrun:=Lib.run_to_unsafe (P:=C.P) w (src:=src) (dst:=dst) ⟨c,o+d,none⟩ hs hd hi hsz (zG h2) (by have:=h3.1;grind);exact cn.val (v':=a.eval x) (w':=w) (by rw[e1];simp[execOp,e1,hrun]) (iy r.mem hx)
theorem Pt (r:Rel C ρ s a w){src dst u:TypeId}{i:TypeInfo}{x:Operand}(hs:C.P.underlying src=some .unsafePointer)(hd:C.P.underlying dst=some (.pointer u))(hi:C.P.info? u=some i)(hex:jl C.P u=true)
 (hlie:liesAt C.P C.P.depth u (C.P.cellsOf u/C.P.cellsOf u) 0 u 1=true) {b:Nat} {l:List AV} (hx:V ρ w (.ptr b 0) (a.eval x)) (hb:s.hp.at b=some (.cells l u)) (hl:l.length=C.P.cellsOf u) {op:Oper} (ho:op.op = .convert src dst x) :
 cn C a.eval op ρ s.hp w ⟨.ptr b 0,s.hp,[]⟩:=by
 obtain⟨dd,oo,ty,pos,af,gd⟩:=op;simp only at ho;subst ho;obtain⟨c,d,cs,fr,e1,hρ,h2,h3,_⟩:=rf r.mem hb hx;obtain⟨rfl,h4⟩:=h3.2 hex;have hrun:=Lib.run_from_unsafe (P:=C.P) w (src:=src) (dst:=dst) ⟨c,0+0,none⟩ hs hd hi (zG h2) aw;exact cn.val (v':=a.eval x) (w':=w) (by rw[e1];simp[execOp,e1,hrun]) (iy r.mem hx)
theorem Pu (r:Rel C ρ s a w){t u ty:TypeId}{x n:Operand}{dst:Option Tmp}{pos:String}{af:Array Edge}{gd:Option (Nat×Bool)}{kk:IntKind}(hx:V ρ w .eK (a.eval x))(hn:V ρ w (.int kk 0) (a.eval n)) :
 cn C a.eval ⟨dst,.call ⟨.builtin .unsafeString,[x,n].toArray,[t,u].toArray⟩,ty,pos,af,gd⟩ ρ s.hp w ⟨.str [],s.hp,[]⟩:=by
 have e1:=hn.gD;generalize hxv:a.eval x=xv at hx;cases hx;refine cn.val (v':=.string .empty) (w':=w) ?_ (iy r.mem (V.str []));rw[hZ];have hmax:IntKind.i64.max=9223372036854775807:=rfl;have hdef:Builtin.unsafeString_ [t,u].toArray ty #[.pointer none,.int kk 0] =
  (do
    let n ←asInt (.int kk 0)
    if n < 0 then runtimePanic (.error "unsafe.String: len out of range")
    if n > IntKind.i64.max then unsupported (.unsafePointer "String: a length above the largest int")
    if n=0 then pure (.string .empty)
    else runtimePanic (.error "unsafe.String: ptr is nil and len is not zero")) := rfl
 have hrun:(Builtin.unsafeString_ [t,u].toArray ty #[.pointer none,.int kk 0]).run C.P w = .ok (.string .empty) w:=by
  rw[hdef];simp[asInt,asIntOf,hmax]
 simp only[builtin,cK,cN,c5,bc,hxv,e1,hrun];rfl
theorem Pv {P:Program}(hc:P.cellsOf e=1)(count off n:Nat)(hn:off+n<=count):liesAt P P.depth e count off e n=true:=by
 have hd:P.depth=(2*(P.types.size+Made.depth)+1)+1:=rfl;rw[hd];simp only[liesAt,Bool.or_eq_true];left;rw[hd];simp[rowAt,hc,hn,sameLayout,Nat.mod_one]
theorem Gl {P:Program}(w:World):∀(l:List Int) (a:Addr) (acc:ByteArray),(∀(j:Nat) x,l[j]? = some x->w.cell? (a.add j)=some (.int .u8 x)) ->
 (loadBytes a acc l.length).run P w = .ok ⟨acc.data++(l.map fun z=>c6 z.toNat).toArray⟩ w
 | [],a,acc,_=>by rfl
 | x::l,a,acc,h=>by
  have h0:w.cell? a=some (.int .u8 x):=by
   have:=h 0 x rfl;simpa[Addr.add] using this
  have ih:=Gl (P:=P) w l (a.add 1) (acc.push x.toNat.toUInt8) (fun j y hy=>by
   have:=h (j+1) y (by simpa using hy);have e:(a.add 1).add j=a.add (j+1):=by
    unfold Addr.add;by_cases hj:j=0
    . subst hj;simp
    . simp[hj];omega
   rw[e];exact this)
  simp only[dU,loadBytes,bc,run_load,h0,Result.andThen];rw[ih];congr 1;apply iB;simp[ByteArray.push]
theorem Pw {c o n:Nat}{cs:Array Value}{fr:Nat×Nat}(h:w.heap[c]? = some (.cells cs e fr))(hn:n≠0) :
 ∃fr',w.freeze ⟨c,o,none⟩ n=w.dE c (.cells cs e fr'):=by
 obtain⟨lo,hi⟩:=fr;have hlt:=(b8.1 h).1;refine⟨if lo == hi then (o,o+n) else (min lo o,max hi (o+n)),?_⟩;unfold jR World.dE;rw[if_neg hn];congr 1<;>grind
theorem Px (r:Rel C ρ s a w){t u ty e:TypeId}{x n:Operand}{dst:Option Tmp}{pos:String}{af:Array Edge}{gd:Option (Nat×Bool)}{kk:IntKind}{k:Int}(hu:C.P.underlying t=some (.pointer e))(hce:C.P.cellsOf e=1)
 {b o:Nat} (hx:V ρ w (.ptr b o) (a.eval x)) (hn:V ρ w (.int kk k) (a.eval n)) (hk:0<k) (hk':k<=2^46) {l:List AV} (hb:s.hp.at b=some (.cells l e)) {c:List AV} (hcut:cut l o k.toNat=some c) {t':List UInt8} (hbo:bytesOf c=some t') :
 cn C a.eval ⟨dst,.call ⟨.builtin .unsafeString,[x,n].toArray,[t,u].toArray⟩,ty,pos,af,gd⟩ ρ s.hp w ⟨.str t',s.hp.put b none,[b]⟩:=by
 obtain⟨h0,_⟩:=kJ r.mem hb;obtain⟨cb,d,cs,fr,e1,hρ,h2,h3,h5⟩:=rf r.mem hb hx;have e2:=hn.gD;obtain⟨m,rfl⟩:=Int.eq_ofNat_of_zero_le (Int.le_of_lt hk);rw[Int.toNat_natCast]at hcut;unfold cut at hcut;simp only at hcut;split at hcut
 . rename_i hlen;cases hcut;have hm:o+m<=l.length:=by simp at hlen;omega
   have hm0:m≠0:=by omega
   have hsz:o+d+m<=cs.size:=by have:=h3.1;omega
   have hVL:VL ρ w ((l.drop o).take m) ((cs.toList.drop (o+d)).take m):=by
    refine⟨aw,fun i x y hx hy=>?_⟩;rw[cV]at hx hy;split at hx
    . grind
    . cases hx
   obtain⟨ns,hns,rfl⟩:=zE _ _ _ hbo hVL;have hnl:ns.length=m:=by
    have:=congrArg List.length hns;simp at this;omega
   have hcell:∀(j:Nat) z,ns[j]? = some z->w.cell? ((⟨cb,o+d,none⟩:Addr).add j)=some (.int .u8 z):=by
    intro j z hz;have hj:j<m:=by have:=(aZ.1 hz).1;omega
    have h7:((cs.toList.drop (o+d)).take m)[j]? = some (.int .u8 z):=by rw[hns];simp[hz]
    rw[cV,if_pos hj,fg]at h7;rw[Addr.hJ];unfold f6;simp only[h2];rw[if_neg aq];simpa using h7
   have hlb:=Gl (P:=C.P) w ns ⟨cb,o+d,none⟩ .empty hcell;rw[hnl]at hlb;have hlie:=Pv (P:=C.P) hce (cs.size/C.P.cellsOf e) (o+d) m aw;obtain⟨fr',hfr⟩:=Pw (o:=o+d) h2 hm0;have hrun:(Builtin.unsafeString_ [t,u].toArray ty #[.pointer (some ⟨cb,o+d,none⟩),.int kk m]).run C.P w = .ok (.string ⟨(ns.map fun z=>c6 z.toNat).toArray⟩) (w.dE cb (.cells cs e fr')):=by
    have hmax:IntKind.i64.max=9223372036854775807:=rfl;have h63:¬(9223372036854775807:Int)<(m:Int):=by omega
    have hneg:¬(m:Int)<0:=by omega
    have hdef:Builtin.unsafeString_ [t,u].toArray ty #[.pointer (some ⟨cb,o+d,none⟩),.int kk m] =
     (do
       let n ←asInt (.int kk m)
       if n < 0 then runtimePanic (.error "unsafe.String: len out of range")
       if n > IntKind.i64.max then unsupported (.unsafePointer "String: a length above the largest int")
       if n=0 then pure (.string .empty)
       else if ←variablesAt ⟨cb,o+d,none⟩ (←elemOf t) n.toNat then do
        let s ←loadBytes ⟨cb,o+d,none⟩ .empty n.toNat
        freeze ⟨cb,o+d,none⟩ n.toNat
        pure (.string s)
       else unsupported (.unsafePointer "String: not so many bytes at ptr")) := rfl
    rw[hdef];simp[asInt,asIntOf,hmax,h63,hneg,hm0,variablesAt,zG h2,elemOf,bV hu,hlie,hlb,hfr]
   have hO:∀cs0 e0 fr0,w.heap[cb]? = some (.cells cs0 e0 fr0)->∃cs' fr'',Obj.cells cs e fr' = .cells cs' e0 fr''/\cs'.size=cs0.size:=by
    intro cs0 e0 fr0 hq;rw[h2]at hq;cases hq;exact⟨_,_,rfl,rfl⟩
   refine cn.val (v':=.string ⟨(ns.map fun z=>c6 z.toNat).toArray⟩) (w':=w.dE cb (.cells cs e fr')) ?_
    ⟨ρ,V.str _,Mem.write r.mem h0 hρ none _ hO aq,Ext.write r.mem h0 hρ none _ hO⟩
   rw[hZ];simp only[builtin,cK,cN,c5,bc,e1,e2,hrun];rfl
 grind
theorem Py (r:Rel C ρ s a w){o:Oper}{io:bm}(hc:iW C o=some io)(hh:io.bM=true){q:HR}(hq:bU s io s.hp=some q):cn C a.eval o ρ s.hp w q:=by
 obtain⟨dst,op,ty,pos,af,gd⟩:=o;cases op <;> simp only[iW]at hc
 case move x=>simp only[az]at hc;obtain⟨y,h1,rfl⟩:=hc;cases hh
 case assign x=>simp only[az]at hc;obtain⟨y,h1,rfl⟩:=hc;cases hh
 case pick c x y=>split at hc <;> first|(cases hc;done)|(cases hc;cases hh)
 case nilCheck x=>simp only[az]at hc;obtain⟨y,h1,rfl⟩:=hc;cases hh
 case unOp=>simp only[az]at hc;obtain⟨y,h1,rfl⟩:=hc;cases hh
 case extract=>simp only[az]at hc;obtain⟨y,h1,rfl⟩:=hc;cases hh
 case makeFunc=>
                  repeat' (first|(cases hc;done)|split at hc)
                  all_goals (cases hc;cases hh)
 case makeInterface=>split at hc <;> first|(cases hc;done)|(simp only[az]at hc;obtain⟨y,h1,rfl⟩:=hc;cases hh)
 case build=>
               repeat' (first|(cases hc;done)|split at hc)
               all_goals (simp only[az]at hc;obtain⟨y,h1,rfl⟩:=hc;cases hh)
 case binOp op t x y u=>
  split at hc
  . rename_i x' y' h1 h2;split at hc
    . split at hc
      . rename_i hcmp hown;cases hc;simp only[bU]at hq;split at hq
        . rename_i b o b' o' h3 h4;split at hq
          . rename_i l e hb;split at hq
            . rename_i hcond;obtain⟨rfl,rfl⟩:=hcond;cases hq;exact Pr r aw aw (r.ah h1 h3) (r.ah h2 h4) hb rfl
            grind
          grind
        grind
      . split at hc
        . cases hc
        . simp only[az]at hc;obtain⟨y,h1,rfl⟩:=hc;cases hh
    . cases hc;cases hh
  grind
 case fieldAddr=>
                   repeat' (first|(cases hc;done)|split at hc)
                   all_goals (cases hc;cases hh)
 case field=>
               repeat' (first|(cases hc;done)|split at hc)
               all_goals (cases hc;cases hh)
 case indexAddr=>
                   repeat' (first|(cases hc;done)|split at hc)
                   all_goals (cases hc;cases hh)
 case index=>
               repeat' (first|(cases hc;done)|split at hc)
               all_goals (cases hc;cases hh)
 case alloc e=>
  split at hc
  . rename_i z hz;simp only[az]at hc;obtain⟨zc,h1,rfl⟩:=hc;simp only[bU,b6.injEq]at hq;subst hq;exact OY r aw rfl
  grind
 case box e x=>
  split at hc
  . rename_i n ag x' hs hx;cases hc;simp only[bU]at hq;split at hq
    . rename_i l hl;split at hq
      . cases hq;simp only[be]at hl;obtain⟨v,h1,h2⟩:=hl;exact OX r (r.ah hx h1) h2 rfl
      grind
    grind
  grind
 case buildSlice t len ps=>
  split at hc
  . rename_i e n bb he;split at hc
    . rename_i z l hz hl;split at hc
      . rename_i hcond;cases hc;simp only[bU]at hq;split at hq
        . rename_i vs hvs;split at hq
          . rename_i l' hl';split at hq
            . rename_i hlen;cases hq;exact OV r he hz hl hcond.2.2 hcond.2.1 hcond.1 hvs hl' hlen rfl
            grind
          grind
        grind
      grind
    grind
  grind
 case load t x=>
  split at hc
  . rename_i n ag x' hs hx;cases hc;simp only[bU]at hq;split at hq
    . rename_i l hl;split at hq
      . rename_i v hv;cases hq;simp only[be]at hl;obtain⟨u,h1,h2⟩:=hl;exact OZ r hs (r.ah hx h1) h2 hv rfl
      grind
    grind
  grind
 case store t x y=>
  split at hc
  . rename_i n ag x' y' hs hx hy;cases hc;simp only[bU]at hq;split at hq
    . rename_i b off new h1 h2;split at hq
      . rename_i l el hb;split at hq
        . rename_i hcond;cases hq;simp only[be]at h2;obtain⟨u,h3,h4⟩:=h2;exact Pa r hs (r.ah hx h1) (r.ah hy h3) h4 hb hcond.1 hcond.2.1 hcond.2.2 rfl
        grind
      grind
    grind
  grind
 case convert src dst x=>
  split at hc <;> try (cases hc;done)
  . cases hc;cases hh
  . cases hc;cases hh
  . cases hc;cases hh
  . rename_i e x' hs hd hx;split at hc
    . rename_i he;split at hc
      . cases hc
      . rename_i hne;cases hc;simp only[bU]at hq;split at hq
        . rename_i t h1;cases hq;exact Pq r hs hd he hne (r.ah hx h1) rfl
        grind
    grind
  . rename_i e x' hs hd hx;split at hc
    . rename_i he;cases hc;simp only[bU]at hq;split at hq
      . cases hq
      . rename_i y hns h1;split at hq
        . rename_i l n hl;split at hq
          . rename_i hln;split at hq
            . rename_i t ht;cases hq;exact Ph r hs hd he (r.ah hx h1) ac hl hln ht rfl
            grind
          grind
        grind
      grind
    grind
  . rename_i t x' hs hd hx;split at hc
    . rename_i i hi;split at hc
      . cases hc
      . rename_i hsz;cases hc;simp only[bU]at hq;split at hq
        . rename_i b o h1;split at hq
          . rename_i l e hb;split at hq
            . rename_i hcond;cases hq;exact Ps r hs hd hi hsz (r.ah hx h1) hb hcond.1 rfl
            grind
          grind
        grind
    grind
  . rename_i u x' hs hd hx;split at hc
    . rename_i i hi;split at hc
      . rename_i hlie;cases hc;simp only[bU]at hq;split at hq
        . rename_i b o h1;split at hq
          . rename_i l e hb;split at hq
            . rename_i hcond;cases hq;simp only[decide_eq_true_eq]at hcond;obtain⟨_,rfl,rfl,hl⟩:=hcond;simp only[gF]at hlie;exact Pt r hs hd hi hlie.1 hlie.2 (r.ah hx h1) hb hl rfl
            grind
          grind
        grind
      grind
    grind
 case makeMap t res=>
  cases res with
  | some _=>cases hc
  | none=>
   cases hc;simp only[bU,b6.injEq]at hq;subst hq;exact Pd r rfl
 case makeSlice t l c=>
  split at hc
  . rename_i e n bb l' c' he hl hcc;split at hc
    . rename_i z hz;split at hc
      . rename_i hcond;cases hc;simp only[bU]at hq;split at hq
        . rename_i x y h1 h2;split at hq
          . rename_i hk;cases hq;simp only[be]at h1 h2;obtain⟨u,h3,h4⟩:=h1;obtain⟨u',h5,h6⟩:=h2;cases u <;> simp only[qM,reduceCtorEq,b6.injEq]at h4;cases u' <;> simp only[qM,reduceCtorEq,b6.injEq]at h6;subst h4;subst h6;exact OW r he hz hcond.1 hcond.2 (r.ah hl h3).gD (r.ah hcc h5).gD hk.1 hk.2.1 hk.2.2.1 hk.2.2.2.1 rfl
          grind
        grind
      grind
    grind
  grind
 case slice t x lo hi mx=>
  split at hc <;> try (cases hc;done)
  . cases hc;cases hh
  . split at hc
    . cases hc;cases hh
    grind
  . rename_i n e x' l' h' hu hx hlo hhi hmx;split at hc
    . rename_i i hi';cases hc;have hmx0:mx=none:=by
       cases mx with
       | none=>rfl
       | some m=>simp[lF]at hmx
      subst hmx0;simp only[bU]at hq;split at hq
      . rename_i b o la ha h1 h2 h3;split at hq
        . rename_i l el hb;split at hq
          . rename_i hin;split at hq
            . rename_i hb' hbb;split at hq
              . rename_i ll hll;cases hq;exact Pn r hu hi' (r.ah hx h1) hb hin (mV r hlo h2) (mV r hhi h3) hbb hll rfl
              grind
            grind
          grind
        grind
      grind
    grind
 case lookup t x i ok=>
  split at hc
  . rename_i kt et x' i' hu hx hi;split at hc
    . rename_i k z hk hz;cases hc;simp only[bU]at hq;split at hq
      . rename_i m kv h1 h2;split at hq
        . rename_i bT;split at hq
          . rename_i es hes;split at hq
            . rename_i q' hf;cases hq;have hes':m = .eO/\es=[]\/∃b,m = .map b/\s.hp.at b=some (.map es):=by
               split at hes
               . grind
               . grind
               . cases hes
              have:=Pc r hu hk hz (r.ah hx h1) (r.ah hi h2) bT hes' hf (ok:=ok) (o:=⟨dst,.lookup t x i ok,ty,pos,af,gd⟩) rfl;cases q' <;> exact this
            grind
          grind
        grind
      grind
    grind
  grind
 case mapUpdate t m i x=>
  split at hc
  . rename_i kt et m' i' x' hu hm hi hx;simp only[az]at hc;obtain⟨k,hk,rfl⟩:=hc;simp only[bU]at hq;split at hq
    . rename_i b kv v h1 h2 h3;split at hq
      . rename_i bT;split at hq
        . rename_i es hb;split at hq
          . rename_i j u hf;cases hq;exact tS r hu hk (r.ah hm h1) (r.ah hi h2) (r.ah hx h3) bT hb hf (.inl rfl)
          . rename_i hf;cases hq;exact tS r hu hk (r.ah hm h1) (r.ah hi h2) (r.ah hx h3) bT hb hf (.inl rfl)
          grind
        grind
      grind
    grind
  grind
 case insert t m i x=>
  split at hc
  . rename_i kt et m' i' x' hu hm hi hx;simp only[az]at hc;obtain⟨k,hk,rfl⟩:=hc;simp only[bU]at hq;split at hq
    . rename_i b kv v h1 h2 h3;split at hq
      . rename_i bT;split at hq
        . rename_i es hb;split at hq
          . rename_i j u hf;cases hq;exact tS r hu hk (r.ah hm h1) (r.ah hi h2) (r.ah hx h3) bT hb hf (.inr rfl)
          . rename_i hf;cases hq;exact tS r hu hk (r.ah hm h1) (r.ah hi h2) (r.ah hx h3) bT hb hf (.inr rfl)
          grind
        grind
      grind
    grind
  grind
 case range t x=>
  split at hc
  . rename_i x' hu hx;cases hc;simp only[bU]at hq;split at hq
    . rename_i u h1;cases hq;exact Pe r hu (r.ah hx h1) rfl
    grind
  grind
 case next x st=>
  cases st with
  | false=>cases hc
  | true=>
   simp only[az]at hc;obtain⟨x',hx,rfl⟩:=hc;simp only[bU]at hq;split at hq
   . rename_i b h1;split at hq
     . rename_i t pos hb;have:=Pf r (r.ah hx h1) hb (o:=⟨dst,.next x true,ty,‹String›,af,gd⟩) rfl<;>grind
     grind
   grind
 case call c=>
  obtain⟨callee,args,ats⟩:=c;cases callee with
  | value f=>
   simp only at hc;split at hc
   . cases hc;simp[bU]at hq
   grind
  | invoke x name=>
   simp only at hc;split at hc
   . cases hc;simp[bU]at hq
   grind
  | builtin b=>
   simp only at hc;split at hc <;> try (cases hc;done)
   . rename_i t x h1 h2;obtain rfl:=ix h1;obtain⟨x0,hx0,h3⟩:=ph h2;obtain rfl:=ix hx0;split at hc
     . cases hc;cases hh
     . rename_i kt et hu;cases hc;simp only[bU]at hq;split at hq
       . rename_i b' h4;split at hq
         . rename_i es he;cases hq;have hl:=Gi r hu (ty:=ty) (r.ah h3 h4) (.inr ⟨b',es,rfl,he,rfl⟩);refine cn.val (v':=.int .i64 es.length) (w':=w) ?_ (iy r.mem (.int _ _));rw[hZ];simp[builtin,hl]
         grind
       . rename_i h4;cases hq;have hl:=Gi r hu (ty:=ty) (r.ah h3 h4) (.inl ⟨rfl,rfl⟩);refine cn.val (v':=.int .i64 0) (w':=w) ?_ (iy r.mem (.int _ _));rw[hZ];simp only[builtin,cK,cN,c5,bc,hl];rfl
       grind
     . cases hc;cases hh
     . cases hc;cases hh
     grind
   . split at hc <;> first|(cases hc;done)|(cases hc;cases hh)
   . rename_i t u x y h1 h2;obtain rfl:=ix h1;obtain⟨x0,x1,hx0,h3,h4⟩:=yX h2;obtain rfl:=ix hx0;have fin:∀e n bb,iU C.P t=some (e,n,bb)->((∃e,C.P.underlying u=some (.slice e))\/C.P.underlying u=some .string)->tD C.P e n=true->jl C.P e=false->io = .append e n bb x y ->
      cn C a.eval ⟨dst,.call ⟨.builtin .append,[x0,x1].toArray,[t,u].toArray⟩,ty,pos,af,gd⟩ ρ s.hp w q:=by
      rintro e n bb he hu hzf hne rfl;simp only[bU]at hq;split at hq
      . rename_i xa ya hx hy;obtain⟨i,hu0,hi,rfl,rfl⟩:=lO he;unfold tD at hzf;split at hzf
        . rename_i z hz;obtain⟨i',zv,hi',hzv,hzl,_⟩:=ra hz;rw[hi]at hi';cases hi';have hzs:zv.cells.size=i.size:=by
           have e1:=(hzl ρ w).toList;rw[←e1];simpa using hzf
          obtain⟨v',w',g1,g2⟩:=OU (ty:=ty) r.mem ⟨hu0,hu,hi,hzv,hzs⟩ (r.ah h3 hx) (r.ah h4 hy) hne hq;refine cn.val (v':=v') (w':=w') ?_ g2;rw[hZ];simp[builtin,g1]
        grind
      . cases hq
     grind
   . rename_i t u x y h1 h2;obtain rfl:=ix h1;obtain⟨x0,x1,hx0,h3,h4⟩:=yX h2;obtain rfl:=ix hx0;split at hc <;> try (cases hc;done)
     rename_i e n bb he;split at hc <;> try (cases hc;done)
     rename_i hn0;cases hc;simp only[bU]at hq;split at hq <;> try (cases hq;done)
     . rename_i b off len e' cap ya hx hy;split at hq <;> try (cases hq;done)
       rename_i src k hsrc;split at hq <;> try (cases hq;done)
       rename_i hcond;obtain⟨rfl,hl,hone⟩:=hcond;split at hq <;> try (cases hq;done)
       rename_i l el hb;split at hq <;> try (cases hq;done)
       rename_i hin;cases hq;obtain⟨w',g1,g2⟩:=Pj (u:=u) (ty:=ty) r he (r.ah h3 hx) (r.ah h4 hy) hsrc hl hone rfl hb hin;refine cn.val (v':=.int .i64 ((min k len:Nat):Int)) (w':=w') ?_ g2;rw[hZ];simp only[builtin,cK,cN,c5,bc,g1];rfl
     . rename_i ya hx hy;split at hq <;> try (cases hq;done)
       rename_i src k hsrc;split at hq <;> try (cases hq;done)
       rename_i hl;cases hq;have e0:=(r.ah h3 hx);generalize hxv:a.eval x0=xv at e0;cases e0;have g1:=Pm (u:=u) (ty:=ty) r he (r.ah h4 hy) hsrc hl;refine cn.val (v':=.int .i64 0) (w':=w) ?_ (iy r.mem (.int _ _));rw[hZ];simp only[builtin,cK,cN,c5,bc,hxv,g1];rfl
   . rename_i t x h1 h2;obtain rfl:=ix h1;obtain⟨x0,hx0,h3⟩:=ph h2;obtain rfl:=ix hx0;split at hc <;> try (cases hc;done)
     rename_i e n bb he;split at hc <;> try (cases hc;done)
     rename_i z hz;split at hc <;> try (cases hc;done)
     rename_i hzn;cases hc;simp only[bU]at hq;split at hq <;> try (cases hq;done)
     . rename_i b off len e' cap hx;split at hq <;> try (cases hq;done)
       rename_i hcond;obtain⟨rfl,hone,_,hlen⟩:=hcond;split at hq <;> try (cases hq;done)
       rename_i l el hb;split at hq <;> try (cases hq;done)
       rename_i hin;cases hq;obtain⟨w',g1,g2⟩:=Pk (ty:=ty) r he hz hzn.1 hone (r.ah h3 hx) hb hlen hin;refine cn.val (v':=.tuple #[]) (w':=w') ?_ g2;rw[hZ];simp only[builtin,cK,cN,c5,bc,g1];rfl
     . rename_i cap hx;cases hq;obtain⟨i,hu,_⟩:=lO he;have e0:=r.ah h3 hx;generalize hxv:a.eval x0=xv at e0;have g1:(Builtin.clear_ #[t] ty #[xv]).run C.P w = .ok (.tuple #[]) w:=by
        cases e0 <;> exact Gk hu
       refine cn.val (v':=.tuple #[]) (w':=w) ?_ (iy r.mem (.iG .nil));rw[hZ];simp only[builtin,cK,cN,c5,bc,hxv,g1];rfl
     . rename_i hx;cases hq;obtain⟨i,hu,_⟩:=lO he;have e0:=r.ah h3 hx;generalize hxv:a.eval x0=xv at e0;have g1:(Builtin.clear_ #[t] ty #[xv]).run C.P w = .ok (.tuple #[]) w:=by
        cases e0 <;> exact Gk hu
       refine cn.val (v':=.tuple #[]) (w':=w) ?_ (iy r.mem (.iG .nil));rw[hZ];simp only[builtin,cK,cN,c5,bc,hxv,g1];rfl
   . split at hc <;> first|(cases hc;done)|(cases hc;cases hh)
   . rename_i t u x n h1 h2;obtain rfl:=ix h1;obtain⟨x0,x1,hx0,h3,h4⟩:=yX h2;obtain rfl:=ix hx0;split at hc <;> try (cases hc;done)
     rename_i e hu;split at hc <;> try (cases hc;done)
     rename_i hce;cases hc;simp only[bU]at hq;split at hq <;> try (cases hq;done)
     . rename_i kk k h5 h6;split at hq <;> try (cases hq;done)
       rename_i hk;subst hk;cases hq;exact Pu r (r.ah h3 h5) (r.ah h4 h6)
     . rename_i b o kk k h5 h6;split at hq <;> try (cases hq;done)
       rename_i hk;split at hq <;> try (cases hq;done)
       rename_i l el hb;split at hq <;> try (cases hq;done)
       rename_i hel;subst hel;split at hq <;> try (cases hq;done)
       rename_i c hcut;split at hq <;> try (cases hq;done)
       rename_i t' hbo;cases hq;exact Px r hu hce (r.ah h3 h5) (r.ah h4 h6) hk.1 hk.2 hb hcut hbo
   . cases hc;cases hh
   . cases hc;cases hh
 case typeAssert x xt t ok=>
  split at hc
  . cases hc
  . split at hc
    . cases hc;cases hh
    grind
  grind
 all_goals (cases hc)
end Go.Ab
