/-
  Own work: an abstract machine for the calls of a translated Go program: values by content, a heap of the blocks that the call itself has made, and an evaluator of resolved code. Definitions only.
-/
import GoSem.Step
import Derived.Laws.Sem
import Derived.CallsIn
import Derived.RangeFuncIn
import Derived.OrdersIn
import Derived.Laws.Strings
import Derived.Laws.StructEq
import Derived.ChangeKeysEq
import Derived.Lib.UnsafeStr
import Derived.IntWalk
import Derived.Laws.BytesString
import Derived.Lib.Builder
import Derived.Lib.ConvBytes
import Derived.Laws.AppendOwn
open Array renaming getElem?_eq_some_iff→cD,toArray_toList→dg,range→du,toList_map→dz
open Bool renaming false_eq_true→ce,not_true→eA,and_eq_true→gF
open ByteArray renaming mk→cP,size→de,ext→iI
open List renaming getElem?_eq_some_iff→br,getElem?_eq_getElem→cC,map_toArray→c5,map_cons→c6,getElem?_take→c7,map_nil→c9,length_take→d7,length_cons→d8,take_length→d9,length_append→fu,getElem?_drop→fY,getElem?_append_left→f6,range'→f7,ext_getElem?→gC,getElem?_set→gD,drop→gT,getElem?_append→ip,take→iq,flatten_cons→i7,range'_succ→i8,foldlM_cons→i9,append_nil→jg
open Nat renaming le_refl→b9,mul_le_mul_right→cT,add_right_comm→d6,lt_of_lt_of_le→fo,zero_le→gc,zero_mul→g9,add_mul→ii,le_trans→i5,lt_trichotomy→i6,mul_one→je
open Option renaming map_eq_some_iff→be,bind_eq_some_iff→bZ,some→ci,map_some→eL
open Prod renaming mk→jt
open Go.Result renaming andThen_ok→bj
open Go.Sem renaming run_bind→bA,run_pure→cZ
open UInt8 renaming ofNat→dc
open Go.Value renaming int→jj
open Go.World renaming cell?→f9,frozen?→iH,freeze→jN
set_option maxHeartbeats 8000000
set_option maxRecDepth 20000
namespace Go.Ab
theorem ac {P:Prop}(h:P:=by omega):P:=h
theorem ao {P:Prop}(h:P:=by decide):P:=h
theorem ax {P:Prop}(h:P:=by simp):P:=h
theorem bc {P:Prop}(h:P:=by grind):P:=h
inductive AV where
 | dO
 | bool (b:Bool)
 | int (k:IntKind) (n:Int)
 | str (s:List UInt8)
 | fx
 | ptr (b off:Nat)
 | vp (l:List AV)
 | ah
 | sl (b off len esz:Nat) (cap:Option Nat)
 | vs (l:List AV) (len:Nat) (cap:Option Nat)
 | ee
 | map (b:Nat)
 | fn (f:Fn) (first captured:List AV)
 | fk
 | iface (t:TypeId) (v:AV)
 | eH
 | agg (l:List AV)
 | aw (l:List AV)
 deriving Inhabited
inductive aZ where
 | p (i:Nat)
 | l (t:Nat)
 | c (v:AV)
 deriving Inhabited
inductive GX where
 | ptr|slice|map|func
 deriving Inhabited
inductive iA where
 | bool|int|str|ref (k:GX)|iface (guard:Bool)
 | rW (fs:List (Nat×Nat×Bool×iA))
 deriving Inhabited
inductive mP where
 | str|sl|arr (n:Nat)
 deriving Inhabited
inductive iY where
 | int|str
 deriving Inhabited
inductive bI where
 | mv (x:aZ)
 | pick (c a b:aZ)
 | bin (op:BinOp) (x y:aZ)
 | eq (neg:Bool) (t:iA) (x y:aZ)
 | un (op:UnOp) (x:aZ)
 | gW (k:IntKind) (x:aZ)
 | Ao (x:aZ)
 | Ap (x:aZ)
 | pZ (elem:TypeId) (x:aZ)
 | rX (x:aZ)
 | qc (u:Option (TypeId×Nat)) (x:aZ)
 | rY (neg:Bool) (x y:aZ)
 | Aq (x:aZ)
 | rZ (e:TypeId) (x n:aZ)
 | sc (esz:Nat) (z:List AV) (x:aZ)
 | uY (x:aZ)
 | field (off n:Nat) (agg:Bool) (x:aZ)
 | uZ (off:Nat) (x:aZ)
 | dE (arr:Option Nat) (esz:Nat) (x i:aZ)
 | index (x i:aZ)
 | Ar (len esz:Nat) (agg:Bool) (x i:aZ)
 | slice (k:mP) (esz:Nat) (x:aZ) (lo hi mx:Option aZ)
 | extract (i:Nat) (x:aZ)
 | sd (t:TypeId) (x:aZ)
 | As (t:TypeId) (z:AV) (ok:Bool) (x:aZ)
 | se (f:Fn) (first captured:List aZ)
 | build (zero:List AV) (ps:List (Nat×Nat×aZ))
 | len (k:mP) (x:aZ)
 | cap (x:aZ)
 | mm (max:Bool) (xs:List aZ)
 | alloc (elem:TypeId) (zero:List AV)
 | box (elem:TypeId) (n:Nat) (x:aZ)
 | dW (elem:TypeId) (len esz:Nat) (zero:List AV) (ps:List (Nat×Nat×aZ))
 | load (n:Nat) (agg:Bool) (x:aZ)
 | store (n:Nat) (x y:aZ)
 | kC
 | iB (elem:TypeId) (esz bytes:Nat) (zero:List AV) (l c:aZ)
 | lookup (k:iY) (zero:AV) (x i:aZ) (ok:Bool)
 | jA (k:iY) (m i x:aZ)
 | range (x:aZ)
 | next (x:aZ)
 | append (elem:TypeId) (esz bytes:Nat) (x y:aZ)
 | copy (esz:Nat) (x y:aZ)
 | qe (n esz:Nat) (x:aZ) (lo hi:Option aZ)
 | sf (x:aZ)
 | call (f:aZ) (args:List aZ)
 | invoke (x:aZ) (name:String) (args:List aZ)
 deriving Inhabited
inductive fN where
 | no|p (i:Nat)|l (t:Nat)
 deriving Inhabited
structure bz where
 dst:fN
 op:bI
 guard:Option (aZ×Bool)
 deriving Inhabited
inductive al where
 | skip
 | region (ops:List bz)
 | draw (ops:List (bz×List Nat))
 | seq (a b:al)
 | cond (c:aZ) (thn els:al)
 | block (id:Nat) (body:al)
 | loop (body:al)
 | exit (id:Nat)
 | ret
 | rangeFunc (inner:Bool) (f:aZ) (ps:List fN) (assign body:al)
 | bad
 deriving Inhabited
inductive Ex where
 | normal|exit (id:Nat)|ret
 deriving DecidableEq,Inhabited
inductive bV where
 | cells (l:List AV) (elem:TypeId)
 | map (es:List (AV×AV))
 | iter (s:List UInt8) (pos:Nat)
 | ie
 | hole
 | loop (st:LoopState) (pend:Option Ex) (pe:List AV) (ps:List fN) (assign body:al)
 deriving Inhabited
abbrev ab:=List (Option bV)
inductive fO where
 | var (x:aZ)
 | cell (n:Nat) (agg:Bool) (x:aZ)
 deriving Inhabited
structure dm where
 N:Nat
 aY:List Nat
 results:List fO
 body:al
 deriving Inhabited
structure St where
 pe:List AV
 lo:List (Nat×AV)
 hp:ab
 cI:List Nat:=[]
 deriving Inhabited
def St.ae (s:St):aZ->Option AV
 | .p i=>s.pe[i]?
 | .l t=>s.lo.lookup t
 | .c v=>some v
def St.db (s:St):List aZ->Option (List AV)
 | []=>some []
 | x::xs=>match s.ae x with
   | some v=>match s.db xs with
     | some vs=>some (v::vs)
     | none=>none
   | none=>none
def St.fg (s:St):Option aZ->Option (Option AV)
 | none=>some none
 | some x=>(s.ae x).map some
def St.put (s:St)(d:fN)(v:AV):St:=
 match d with
 | .no=>s
 | .p i=>{ s with pe:=s.pe.set i v }
 | .l t=>{ s with lo:=(t,v)::s.lo }
def AV.cells:AV->Option (List AV)
 | .dO=>none
 | .agg l=>some l
 | v=>some [v]
def dx:AV->Bool
 | .dO | .agg _ | .aw _=>false
 | _=>true
def cut (l:List AV)(off n:Nat):Option (List AV):=
 let r:=(l.drop off).take n
 if r.length=n then some r else none
def partOf (l:List AV)(off n:Nat)(agg:Bool):Option AV:=
 if agg then (cut l off n).map .agg else l[off]?
def overwrite (l:List AV)(off:Nat)(new:List AV):List AV:=
 l.take off++new++l.drop (off+new.length)
def mj:List AV->List (Nat×Nat×AV)->Option (List AV)
 | cs,[]=>some cs
 | cs,(off,n,v)::rest=>match v.cells with
   | some l=>if l.length=n/\off+n<=cs.length then mj (overwrite cs off l) rest else none
   | none=>none
def St.parts (s:St):List (Nat×Nat×aZ)->Option (List (Nat×Nat×AV))
 | []=>some []
 | (o,n,x)::r=>match s.ae x with
   | some v=>match s.parts r with
     | some vs=>some ((o,n,v)::vs)
     | none=>none
   | none=>none
def sh:AV->Option Int
 | .int _ n=>some n
 | _=>none
def ab.at (h:ab)(b:Nat):Option bV:=(h[b]?).join
def gr (h:ab):AV->Option (List AV)
 | .ptr b off=>match h.at b with|some (.cells l _)=>some (l.drop off)|_=>none
 | .vp l=>some l
 | _=>none
def gY (h:ab):AV->Option (List AV×Nat)
 | .ah=>some ([],0)
 | .vs l n _=>some (l,n)
 | .sl b off n esz _=>match h.at b with
   | some (.cells l _)=>(cut l off (n*esz)).map (·,n)
   | _=>if n=0 then some ([],0) else none
 | .str s=>some (s.map fun c=>.int .u8 c.toNat,s.length)
 | _=>none
def jX:GX->AV->AV->Option Bool
 | .ptr,.fx,.fx=>some true
 | .ptr,.fx,.ptr _ _=>some false
 | .ptr,.fx,.vp _=>some false
 | .ptr,.ptr _ _,.fx=>some false
 | .ptr,.vp _,.fx=>some false
 | .slice,.ah,.ah=>some true
 | .slice,.ah,.sl _ _ (_+1) _ _=>some false
 | .slice,.sl _ _ (_+1) _ _,.ah=>some false
 | .slice,.ah,.sl _ _ 0 _ (some _)=>some false
 | .slice,.sl _ _ 0 _ (some _),.ah=>some false
 | .slice,.ah,.vs (_::_) _ _=>some false
 | .slice,.vs (_::_) _ _,.ah=>some false
 | .map,.ee,.ee=>some true
 | .map,.ee,.map _=>some false
 | .map,.map _,.ee=>some false
 | .func,.fk,.fk=>some true
 | .func,.fk,.fn _ _ _=>some false
 | .func,.fn _ _ _,.fk=>some false
 | _,_,_=>none
def goEq (rec:iA->AV->AV->Option Bool):List (Nat×Nat×Bool×iA)->List AV->List AV->Option Bool
 | [],_,_=>some true
 | (off,n,ag,t)::rest,xs,ys=>
  match partOf xs off n ag,partOf ys off n ag with
  | some x,some y=>match rec t x y with
    | some true=>goEq rec rest xs ys
    | some false=>some false
    | none=>none
  | _,_=>none
def eZ:Nat->iA->AV->AV->Option Bool
 | 0,_,_,_=>none
 | d+1,t,x,y=>
  match t,x,y with
  | .bool,.bool a,.bool b=>some (a == b)
  | .int,.int k a,.int k' b=>if k=k' then some (a == b) else none
  | .str,.str a,.str b=>some (a == b)
  | .ref k,x,y=>jX k x y
  | .iface g,.eH,.eH=>if g then none else some true
  | .iface _,.eH,.iface _ _=>some false
  | .iface _,.iface _ _,.eH=>some false
  | .rW fs,.agg xs,.agg ys=>goEq (fun t x y=>eZ d t x y) fs xs ys
  | _,_,_=>none
def dS (op:BinOp)(x y:AV):Option AV:=
 match x,y with
 | .int k a,.int k' b=>
  match op with
  | .shl=>if b<0 then none else some (.int k (k.wrap (a*2^(min b.toNat k.bits))))
  | .shr=>if b<0 then none else some (.int k (a.fdiv (2^(min b.toNat k.bits))))
  | op=>if k=k' then
      match op with
      | .add=>some (.int k (k.wrap (a+b)))
      | .sub=>some (.int k (k.wrap (a-b)))
      | .mul=>some (.int k (k.wrap (a*b)))
      | .quo=>if b=0 then none else some (.int k (k.wrap (a.tdiv b)))
      | .rem=>if b=0 then none else some (.int k (a.tmod b))
      | .and=>some (.int k (k.wrap (BitVec.ofInt k.bits a &&& BitVec.ofInt k.bits b).toNat))
      | .or=>some (.int k (k.wrap (BitVec.ofInt k.bits a ||| BitVec.ofInt k.bits b).toNat))
      | .xor=>some (.int k (k.wrap (BitVec.ofInt k.bits a ^^^ BitVec.ofInt k.bits b).toNat))
      | .andNot=>some (.int k (k.wrap (BitVec.ofInt k.bits a &&& ~~~ BitVec.ofInt k.bits b).toNat))
      | .eql=>some (.bool (a == b))
      | .neq=>some (.bool (a != b))
      | .lss=>some (.bool (a<b))
      | .leq=>some (.bool (a<=b))
      | .gtr=>some (.bool (a > b))
      | .geq=>some (.bool (a>=b))
      | _=>none
    else none
 | .str a,.str b=>
  match op with
  | .add=>if a.length+b.length<2^62 then some (.str (a++b)) else none
  | .eql=>some (.bool (a == b))
  | .neq=>some (.bool !(a == b))
  | .lss=>some (.bool (Op.bytesLess a b))
  | .leq=>some (.bool (Op.bytesLess a b || a == b))
  | .gtr=>some (.bool !(Op.bytesLess a b || a == b))
  | .geq=>some (.bool !(Op.bytesLess a b))
  | _=>none
 | _,_=>none
def ve (op:UnOp)(x:AV):Option AV:=
 match op,x with
 | .neg,.int k n=>some (.int k (k.wrap (0-n)))
 | .not,.bool b=>some (.bool !b)
 | .xor,.int k n=>some (.int k (k.wrap (BitVec.ofInt k.bits (if k.signed then -1 else k.max) ^^^ BitVec.ofInt k.bits n).toNat))
 | _,_=>none
def nZ (k:IntKind)(x:AV):Option AV:=
 match x with
 | .int _ n=>some (.int k (k.wrap n))
 | _=>none
def Au (off:Nat)(x:AV):Option AV:=
 match x with
 | .ptr b o=>some (.ptr b (o+off))
 | .vp l=>some (.vp (l.drop off))
 | _=>none
def qf (arr:Option Nat)(esz:Nat)(x i:AV):Option AV:=
 match i with
 | .int _ n=>
  match arr,x with
  | some len,.ptr b o=>if 0<=n/\n<len then some (.ptr b (o+n.toNat*esz)) else none
  | some len,.vp l=>if 0<=n/\n<len then some (.vp (l.drop (n.toNat*esz))) else none
  | none,.sl b o len e _=>if 0<=n/\n<len/\e=esz then some (.ptr b (o+n.toNat*esz)) else none
  | none,.vs l len _=>if 0<=n/\n<len then some (.vp (l.drop (n.toNat*esz))) else none
  | _,_=>none
 | _=>none
def vh (x i:AV):Option AV:=
 match x,i with
 | .str s,.int _ n=>if 0<=n then (s[n.toNat]?).map fun c=>.int .u8 c.toNat else none
 | _,_=>none
def cH (x:Option AV)(dflt most:Nat):Option Nat:=
 match x with
 | none=>some dflt
 | some (.int _ n)=>if 0<=n/\n<=most then some n.toNat else none
 | some _=>none
def kD (k:mP)(esz:Nat)(x:AV)(lo hi mx:Option AV):Option AV:=
 match k,x,mx with
 | .str,.str s,none=>
  match cH hi s.length s.length with
  | some h=>match cH lo 0 h with
    | some l=>some (.str ((s.drop l).take (h-l)))
    | none=>none
  | none=>none
 | .sl,.ah,none=>
  match cH hi 0 0,cH lo 0 0 with
  | some _,some _=>some .ah
  | _,_=>none
 | .sl,.ah,some m=>
  match cH (some m) 0 0,cH hi 0 0,cH lo 0 0 with
  | some _,some _,some _=>some .ah
  | _,_,_=>none
 | .sl,.sl b o len e cap,none=>
  if e=esz then
   match cH hi len (cap.getD len) with
   | some h=>match cH lo 0 h with
     | some l=>
      if l<h then some (.sl b (o+l*esz) (h-l) esz (cap.map (· - l)))
      else some (.vs [] 0 (cap.map (· - l)))
     | none=>none
   | none=>none
  else none
 | .sl,.sl b o len e cap,some m=>
  if e=esz then
   match cH (some m) len (cap.getD len) with
   | some m=>match cH hi len m with
     | some h=>match cH lo 0 h with
       | some l=>
        if l<h then some (.sl b (o+l*esz) (h-l) esz (some (m-l)))
        else some (.vs [] 0 (some (m-l)))
       | none=>none
     | none=>none
   | none=>none
  else none
 | .sl,.vs c len cap,none=>
  match cH hi len len with
  | some h=>match cH lo 0 h with
    | some l=>some (.vs ((c.drop (l*esz)).take ((h-l)*esz)) (h-l) (cap.map (· - l)))
    | none=>none
  | none=>none
 | .sl,.vs c len _,some m=>
  match cH (some m) len len with
  | some m=>match cH hi len m with
    | some h=>match cH lo 0 h with
      | some l=>some (.vs ((c.drop (l*esz)).take ((h-l)*esz)) (h-l) (some (m-l)))
      | none=>none
    | none=>none
  | none=>none
 | _,_,_=>none
def vi (k:mP)(x:AV):Option AV:=
 match k,x with
 | .str,.str s=>some (.int .i64 s.length)
 | .sl,.ah=>some (.int .i64 0)
 | .sl,.sl _ _ n _ _=>some (.int .i64 n)
 | .sl,.vs _ n _=>some (.int .i64 n)
 | _,_=>none
def jH (max:Bool):AV->List AV->Option AV
 | x,[]=>some x
 | .int k a,.int k' b::rest=>
  if k=k' then jH max (.int k (if max then (if b > a then b else a) else (if b<a then b else a))) rest else none
 | _,_=>none
def Av (x:AV):Option AV:=
 match x with
 | .ptr _ _ | .vp _=>some x
 | .fn (.func _) _ _=>some x
 | .fn (.yield _) _ _=>some x
 | _=>none
def bF (s:St)(io:bI):Option AV:=
 match io with
 | .mv x=>s.ae x
 | .pick c a b=>match s.ae c,s.ae a,s.ae b with
   | some (.bool t),some a,some b=>some (if t then a else b)
   | some (.bool t),some a,none=>if t then some a else none
   | some (.bool t),none,some b=>if t then none else some b
   | _,_,_=>none
 | .bin op x y=>match s.ae x,s.ae y with
   | some a,some b=>dS op a b
   | _,_=>none
 | .eq neg t x y=>match s.ae x,s.ae y with
   | some a,some b=>match eZ 100 t a b with
     | some r=>some (.bool (if neg then !r else r))
     | none=>none
   | _,_=>none
 | .un op x=>(s.ae x).bind (ve op)
 | .gW k x=>(s.ae x).bind (nZ k)
 | .Ao x=>match s.ae x with
   | some (.int _ n)=>some (.str (Utf8.encode n).data.toList)
   | _=>none
 | .Ap x=>match s.ae x with
   | some (.str t)=>some (.str t)
   | _=>none
 | .uY x=>(s.ae x).bind Av
 | .field off n ag x=>match s.ae x with
   | some (.agg l)=>partOf l off n ag
   | _=>none
 | .uZ off x=>(s.ae x).bind (Au off)
 | .dE arr esz x i=>match s.ae x,s.ae i with
   | some a,some b=>qf arr esz a b
   | _,_=>none
 | .index x i=>match s.ae x,s.ae i with
   | some a,some b=>vh a b
   | _,_=>none
 | .Ar len esz ag x i=>match s.ae x,s.ae i with
   | some (.agg l),some (.int _ n)=>if 0<=n/\n<len then partOf l (n.toNat*esz) esz ag else none
   | _,_=>none
 | .slice k esz x lo hi mx=>match s.ae x with
   | some a=>
    match s.fg lo,s.fg hi,s.fg mx with
    | some l,some h,some m=>if m.isNone || h.isSome then kD k esz a l h m else none
    | _,_,_=>none
   | none=>none
 | .extract i x=>match s.ae x with
   | some (.aw l)=>l[i]?
   | _=>none
 | .sd t x=>(s.ae x).map (.iface t)
 | .As t z ok x=>match s.ae x with
   | some (.iface u v)=>if u=t then some (if ok then .aw [v,.bool true] else v) else if ok then some (.aw [z,.bool false]) else none
   | some .eH=>if ok then some (.aw [z,.bool false]) else none
   | _=>none
 | .se f fi ca=>match s.db fi,s.db ca with
   | some a,some b=>some (.fn f a b)
   | _,_=>none
 | .build zero ps=>match s.parts ps with
   | some vs=>(mj zero vs).map .agg
   | none=>none
 | .len k x=>match k with
   | .arr n=>some (.int .i64 n)
   | k=>(s.ae x).bind (vi k)
 | .cap x=>match s.ae x with
   | some .ah=>some (.int .i64 0)
   | some (.sl _ _ _ _ (some c))=>some (.int .i64 c)
   | some (.vs _ _ (some c))=>some (.int .i64 c)
   | _=>none
 | .mm mx xs=>match s.db xs with
   | some (.int k a::rest)=>jH mx (.int k a) rest
   | _=>none
 | .Aq x=>match s.ae x with
   | some .ah=>some .fx
   | some (.sl b o (_+1) _ _)=>some (.ptr b o)
   | _=>none
 | _=>none
def bI.bU:bI->Bool
 | .alloc .. | .box .. | .dW .. | .load .. | .store .. | .kC | .iB .. | .lookup .. | .jA .. | .range .. | .next .. | .append .. | .copy .. | .qe .. | .sf .. | .call .. | .invoke .. | .rX .. | .pZ .. | .qc .. | .rY .. | .rZ .. | .sc .. => true
 | _=>false
def vj:List (Nat×Nat×aZ)->List aZ
 | []=>[]
 | (_,_,x)::r=>x::vj r
def bI.iD:bI->List aZ
 | .mv x | .un _ x | .gW _ x | .Ao x | .Ap x | .pZ _ x | .rX x | .uY x | .field _ _ _ x | .uZ _ x | .extract _ x | .sd _ x
 | .len _ x | .cap x | .box _ _ x | .load _ _ x | .range x | .next x | .sf x | .qc _ x | .Aq x | .As _ _ _ x | .sc _ _ x=>[x]
 | .pick c a b=>[c,a,b]
 | .bin _ x y | .eq _ _ x y | .dE _ _ x y | .index x y | .Ar _ _ _ x y | .store _ x y | .iB _ _ _ _ x y | .lookup _ _ x y _ | .append _ _ _ x y | .copy _ x y | .rY _ x y | .rZ _ x y=>[x,y]
 | .slice _ _ x lo hi mx=>x::(lo.toList++hi.toList++mx.toList)
 | .qe _ _ x lo hi=>x::(lo.toList++hi.toList)
 | .se _ fi ca=>fi++ca
 | .build _ ps | .dW _ _ _ _ ps=>vj ps
 | .mm _ xs=>xs
 | .alloc .. | .kC=>[]
 | .jA _ m i x=>[m,i,x]
 | .call f as | .invoke f _ as=>f::as
def bz.iD (o:bz):List aZ:=(match o.guard with|some (x,_)=>[x]|none=>[])++o.op.iD
def fh:fN->aZ->Bool
 | .p i,.p j=>i == j
 | .l t,.l u=>t == u
 | _,_=>false
def GY:fN->fN->Bool
 | .p i,.p j=>i == j
 | .l t,.l u=>t == u
 | _,_=>false
def qi (a b:bz):Bool:=(b.iD.all fun x=>!fh a.dst x) && (a.iD.all fun x=>!fh b.dst x) && !GY a.dst b.dst
structure HR where
 v:AV
 h:ab
 wr:List Nat
def cM:AV:=.aw []
def ab.put (h:ab)(b:Nat)(o:Option bV):ab:=h.set b o
def mn:AV->AV->Option Bool
 | .int k a,.int k' b=>if k=k' then some (a == b) else none
 | .str a,.str b=>some (a == b)
 | _,_=>none
def jB (k:AV):List (AV×AV)->Nat->Option (Option (Nat×AV))
 | [],_=>some none
 | (k',v)::r,i=>match mn k k' with
   | some true=>some (some (i,v))
   | some false=>jB k r (i+1)
   | none=>none
def iY.ok:iY->AV->Bool
 | .int,.int _ _=>true
 | .str,.str _=>true
 | _,_=>false
def iE (zero:List AV):Nat->List AV
 | 0=>[]
 | n+1=>zero++iE zero n
def bytesOf:List AV->Option (List UInt8)
 | []=>some []
 | .int .u8 n::r=>match bytesOf r with
   | some l=>some (dc n.toNat::l)
   | none=>none
 | _=>none
def fa:Nat:=2^46
def mq (elem:TypeId)(esz bytes:Nat)(h:ab)(x y:AV):Option HR:=
 match gY h y with
 | none=>none
 | some (new,n)=>
  if new.length=n*esz/\0<bytes/\new.all dx=true then
   match x with
   | .ah=>
    if n=0 then some ⟨.ah,h,[]⟩
    else if n*bytes<=fa then some ⟨.sl h.length 0 n esz none,h++[some (.cells new elem)],[]⟩ else none
   | .vs l len cap=>
    if n=0 then some ⟨x,h,[]⟩ else
    match cap with
    | some c=>if c<len+n/\(len+n)*bytes<=fa/\l.length=len*esz then some ⟨.sl h.length 0 (len+n) esz none,h++[some (.cells (l++new) elem)],[]⟩ else none
    | none=>none
   | .sl b off len e cap=>
    if n=0 then some ⟨x,h,[]⟩ else
    if e=esz/\(len+n)*bytes<=fa then
     match h.at b with
     | some (.cells l el)=>
      match cap with
      | some c=>
       if len+n<=c then
        if off+(len+n)*esz<=l.length then some ⟨.sl b off (len+n) esz cap,h.put b (some (.cells (overwrite l (off+len*esz) new) el)),[b]⟩ else none
       else match cut l off (len*esz) with
        | some di=>some ⟨.sl h.length 0 (len+n) esz none,h++[some (.cells (di++new) elem)],[]⟩
        | none=>none
      | none=>
       if l.length=off+len*esz/\el=elem then
        some ⟨.sl h.length 0 (len+n) esz none,h.put b none++[some (.cells (l.drop off++new) elem)],[b]⟩
       else none
     | _=>none
    else none
   | _=>none
  else none
def cg (s:St)(io:bI)(h:ab):Option HR:=
 match io with
 | .alloc elem zero=>some ⟨.ptr h.length 0,h++[some (.cells zero elem)],[]⟩
 | .box elem n x=>match (s.ae x).bind AV.cells with
   | some l=>if l.length=n then some ⟨.ptr h.length 0,h++[some (.cells l elem)],[]⟩ else none
   | none=>none
 | .dW elem len esz zero ps=>match s.parts ps with
   | some vs=>match mj (iE zero len) vs with
     | some l=>if l.length=len*esz then some ⟨.sl h.length 0 len esz (some len),h++[some (.cells l elem)],[]⟩ else none
     | none=>none
   | none=>none
 | .load n ag x=>match (s.ae x).bind (gr h) with
   | some l=>match partOf l 0 n ag with
     | some v=>some ⟨v,h,[]⟩
     | none=>none
   | none=>none
 | .store n x y=>match s.ae x,(s.ae y).bind AV.cells with
   | some (.ptr b off),some new=>match h.at b with
     | some (.cells l el)=>if new.length=n/\off+n<=l.length/\new.all dx=true then some ⟨cM,h.put b (some (.cells (overwrite l off new) el)),[b]⟩ else none
     | _=>none
   | _,_=>none
 | .kC=>some ⟨.map h.length,h++[some (.map [])],[]⟩
 | .iB elem esz bytes zero l c=>match (s.ae l).bind sh,(s.ae c).bind sh with
   | some a,some b=>
    if 0<=a/\a<=b/\b.toNat*bytes<=fa/\b<=2^46/\zero.length=esz then some ⟨.sl h.length 0 a.toNat esz (some b.toNat),h++[some (.cells (iE zero b.toNat) elem)],[]⟩ else none
   | _,_=>none
 | .lookup kt zero x i ok=>match s.ae x,s.ae i with
   | some m,some k=>
    if kt.ok k then
     let es? : Option (List (AV×AV)):=match m with
      | .ee=>some []
      | .map b=>match h.at b with|some (.map es)=>some es|_=>none
      | _=>none
     match es? with
     | some es=>match jB k es 0 with
       | some r=>
        let v:=match r with|some (_,v)=>v|none=>zero
        some ⟨if ok then .aw [v,.bool r.isSome] else v,h,[]⟩
       | none=>none
     | none=>none
    else none
   | _,_=>none
 | .jA kt m i x=>match s.ae m,s.ae i,s.ae x with
   | some (.map b),some k,some v=>
    if kt.ok k then
     match h.at b with
     | some (.map es)=>match jB k es 0 with
       | some (some (j,_))=>some ⟨cM,h.put b (some (.map (es.set j (k,v)))),[b]⟩
       | some none=>some ⟨cM,h.put b (some (.map (es++[(k,v)]))),[b]⟩
       | none=>none
     | _=>none
    else none
   | _,_,_=>none
 | .range x=>match s.ae x with
   | some (.str t)=>some ⟨.ptr h.length 0,h++[some (.iter t 0)],[]⟩
   | _=>none
 | .next x=>match s.ae x with
   | some (.ptr b 0)=>match h.at b with
     | some (.iter t pos)=>
      if pos<t.length then
       let (c,w):=Utf8.decode ⟨t.toArray⟩ pos
       some ⟨.aw [.bool true,.int .i64 pos,.int .i32 c],h.put b (some (.iter t (pos+w))),[b]⟩
      else some ⟨.aw [.bool false],h,[]⟩
     | _=>none
   | _=>none
 | .append elem esz bytes x y=>match s.ae x,s.ae y with
   | some a,some b=>mq elem esz bytes h a b
   | _,_=>none
 | .sc esz z x=>match s.ae x with
   | some (.sl b off len e _)=>
    if e=esz/\z.all dx=true/\z.length=esz/\0<len then
     match h.at b with
     | some (.cells l el)=>if off+len*esz<=l.length then some ⟨.aw [],h.put b (some (.cells (overwrite l off (iE z len)) el)),[b]⟩ else none
     | _=>none
    else none
   | some (.vs [] 0 _)=>some ⟨.aw [],h,[]⟩
   | some .ah=>some ⟨.aw [],h,[]⟩
   | _=>none
 | .copy esz x y=>match s.ae x,s.ae y with
   | some (.sl b off len e _),some y=>
    match gY h y with
    | some (src,n)=>
     if e=esz/\src.length=n*esz/\src.all dx=true then
      let m:=min n len
      match h.at b with
      | some (.cells l el)=>if off+m*esz<=l.length then some ⟨.int .i64 m,h.put b (some (.cells (overwrite l off (src.take (m*esz))) el)),[b]⟩ else none
      | _=>none
     else none
    | none=>none
   | some .ah,some y=>match gY h y with
     | some (src,n)=>if src.length=n*esz then some ⟨.int .i64 0,h,[]⟩ else none
     | none=>none
   | _,_=>none
 | .qe n esz x lo hi=>match s.ae x,s.fg lo,s.fg hi with
   | some (.ptr b o),some lo,some hi=>match h.at b with
     | some (.cells l _)=>
      if o+n*esz<=l.length then
       match cH hi n n with
       | some hh=>match cH lo 0 hh with
         | some ll=>some ⟨if ll<n then .sl b (o+ll*esz) (hh-ll) esz (some (n-ll)) else .vs [] 0 (some 0),h,[]⟩
         | none=>none
       | none=>none
      else none
     | _=>none
   | _,_,_=>none
 | .sf x=>match s.ae x with
   | some (.map b)=>match h.at b with
     | some (.map es)=>some ⟨.int .i64 es.length,h,[]⟩
     | _=>none
   | some .ee=>some ⟨.int .i64 0,h,[]⟩
   | _=>none
 | .pZ elem x=>match s.ae x with
   | some (.str t)=>some ⟨.sl h.length 0 t.length 1 none,h++[some (.cells (t.map fun c=>.int .u8 c.toNat) elem)],[]⟩
   | _=>none
 | .rX x=>match s.ae x with
   | some (.str _)=>none
   | some y=>match gY h y with
     | some (l,n)=>if l.length=n then
         match bytesOf l with
         | some t=>some ⟨.str t,h,[]⟩
         | none=>none
       else none
     | none=>none
   | none=>none
 | .qc u x=>match s.ae x with
   | some (.ptr b o)=>match h.at b with
     | some (.cells l e)=>
      if o<l.length/\(match u with|none=>true|some (t,n)=>decide (o=0/\e=t/\l.length=n))=true then some ⟨.ptr b o,h,[]⟩ else none
     | _=>none
   | _=>none
 | .rY neg x y=>match s.ae x,s.ae y with
   | some (.ptr b o),some (.ptr b' o')=>match h.at b with
     | some (.cells _ _)=>if b=b'/\o=o' then some ⟨.bool !neg,h,[]⟩ else none
     | _=>none
   | _,_=>none
 | .rZ e x n=>match s.ae x,s.ae n with
   | some .fx,some (.int _ k)=>if k=0 then some ⟨.str [],h,[]⟩ else none
   | some (.ptr b o),some (.int _ k)=>
    if 0<k/\k<=2^46 then
     match h.at b with
     | some (.cells l el)=>
      if el=e then
       match cut l o k.toNat with
       | some c=>match bytesOf c with
         | some t=>some ⟨.str t,h.put b none,[b]⟩
         | none=>none
       | none=>none
      else none
     | _=>none
    else none
   | _,_=>none
 | _=>none
abbrev fc:=AV->List AV->ab->Option HR
abbrev fy:=TypeId->String->Option FuncId
def cz (call:fc)(inv:fy)(s:St)(io:bI):Option HR:=
 match io with
 | .call f args=>match s.ae f,s.db args with
   | some g,some as=>call g as s.hp
   | _,_=>none
 | .invoke x name args=>match s.ae x,s.db args with
   | some (.iface t v),some as=>match inv t name with
     | some f=>call (.fn (.func f) [] []) (v::as) s.hp
     | none=>none
   | _,_=>none
 | io=>if io.bU then cg s io s.hp else (bF s io).map fun v=>⟨v,s.hp,[]⟩
def fl (s:St)(g:Option (aZ×Bool)):Option Bool:=
 match g with
 | none=>some true
 | some (x,want)=>match s.ae x with
   | some (.bool b)=>some (b == want)
   | some (.aw _)=>some false
   | _=>none
structure au where
 s:St
 wr:List Nat
def fH (call:fc)(inv:fy):List bz->au->Option au
 | [],s=>some s
 | o::rest,s=>match fl s.s o.guard with
   | some true=>match cz call inv s.s o.op with
     | some r=>fH call inv rest ⟨{ s.s.put o.dst r.v with hp:=r.h },r.wr++s.wr⟩
     | none=>none
   | some false=>fH call inv rest ⟨s.s.put o.dst cM,s.wr⟩
   | none=>none
def mask (h:ab)(U:List Nat):ab:=U.foldl (fun h b=>h.set b none) h
def fz (T:List Nat):ab->Nat->ab
 | [],_=>[]
 | o::r,i=>(if T.contains i then o else none)::fz T r (i+1)
def gg (wr:List Nat):ab->ab->Nat->ab
 | o::h,n::h',i=>(if wr.contains i then n else o)::gg wr h h' (i+1)
 | [],h',_=>h'
 | h,[],_=>h
def mr (s:St)(io:bI):Option (List Nat):=
 let dP (x:aZ):List Nat:=match s.ae x with
  | some (.ptr b _)=>[b]
  | some (.sl b _ _ _ _)=>[b]
  | some (.map b)=>[b]
  | _=>[]
 match io with
 | .alloc .. | .box .. | .dW .. | .kC | .iB .. | .range _ | .pZ .. => some []
 | .load _ _ x | .next x | .sf x | .rX x | .store _ x _ | .lookup _ _ x _ _ | .jA _ x _ _=>some (dP x)
 | .append _ _ _ x y | .copy _ x y | .rY _ x y=>some (dP x++dP y)
 | .qc _ x | .rZ _ x _ | .sc _ _ x=>some (dP x)
 | .qe _ _ x _ _=>some (dP x)
 | .call .. | .invoke .. => none
 | _=>some []
structure cJ where
 lj:Option (List Nat)
 wr:List Nat
 lo:Nat
 hi:Nat
def cJ.own (d:cJ):List Nat:=d.wr++f7 d.lo (d.hi-d.lo)
def jl (a b:List Nat):Bool:=a.all fun x=>!b.contains x
def eK (call:fc)(inv:fy):List (bz×List Nat)->au->List cJ->Option au
 | [],s,_=>some s
 | (o,un)::rest,s,ds=>match fl s.s o.guard with
   | some true=>
    if o.op.bU then
     let U:=un.flatMap fun j=>(ds[j]?).elim [] cJ.own
     let t:=mr s.s o.op
     if (match t with|some T=>jl T U|none=>true) then
      let h0:=match t with|some T=>fz T s.s.hp 0|none=>mask s.s.hp U
      match cz call inv { s.s with hp:=h0 } o.op with
      | some r=>
       if (r.wr.all fun b=>(h0.at b).isSome) && (r.wr.isEmpty || un.all (fun j=>match ds[j]? with|some d=>(match d.lj with|some T=>jl r.wr T|none=>false)|none=>false)) then
        eK call inv rest ⟨{ s.s.put o.dst r.v with hp:=gg r.wr s.s.hp r.h 0 },r.wr++s.wr⟩ (ds++[⟨t,r.wr,s.s.hp.length,r.h.length⟩])
       else none
      | none=>none
     else none
    else match bF s.s o.op with
     | some v=>eK call inv rest ⟨s.s.put o.dst v,s.wr⟩ (ds++[⟨some [],[],s.s.hp.length,s.s.hp.length⟩])
     | none=>none
   | some false=>eK call inv rest ⟨s.s.put o.dst cM,s.wr⟩ (ds++[⟨some [],[],s.s.hp.length,s.s.hp.length⟩])
   | none=>none
mutual
def AV.top:AV->Nat
 | .ptr b _=>b+1
 | .sl b _ _ _ _=>b+1
 | .map b=>b+1
 | .vp l=>bO l
 | .vs l _ _=>bO l
 | .fn f a b=>max (match f with | .yield l=>l+1|_=>0) (max (bO a) (bO b))
 | .iface _ v=>v.top
 | .agg l=>bO l
 | .aw l=>bO l
 | _=>0
def bO:List AV->Nat
 | []=>0
 | v::r=>max v.top (bO r)
end
def bV.top:bV->Nat
 | .cells l _=>bO l
 | .map es=>oc es
 | .iter _ _=>0
 | .ie=>0
 | .hole=>0
 | .loop _ _ pe _ _ _=>bO pe
where
 oc:List (AV×AV)->Nat
  | []=>0
  | (k,v)::r=>max (max k.top v.top) (oc r)
def tight (h:ab)(n:Nat)(wr:List Nat):Bool:=
 wr.all fun b=>match h.at b with
  | some o=>b>=n || o.top<=n
  | none=>true
def dK (s:St):List fO->Option (List AV)
 | []=>some []
 | r::rest=>
  let v? : Option AV:=match r with
   | .var x=>s.ae x
   | .cell n ag x=>(s.ae x).bind fun p=>(gr s.hp p).bind fun l=>partOf l 0 n ag
  match v?,dK s rest with
  | some v,some vs=>some (v::vs)
  | _,_=>none
def bk:List AV->AV
 | [v]=>v
 | vs=>.aw vs
def gh (v:AV)(n:Nat)(s:au):HR:=
 if v.top<=n && tight s.s.hp n s.wr then ⟨v,s.s.hp.take n,s.wr.filter (· < n)⟩
 else ⟨v,s.s.hp,s.wr.filter (· < n)⟩
def mu:List Nat->au->Option au
 | [],s=>some s
 | d::r,s=>match s.s.hp.at d with
   | some .ie=>mu r ⟨{ s.s with hp:=s.s.hp.put d none },d::s.wr⟩
   | _=>none
def qj (s:St):List fN->List AV->Option St
 | [],[]=>some s
 | d::ds,v::vs=>qj (s.put d v) ds vs
 | _,_=>none
def iF (run:al->au->Option (Ex×au))(FT:FuncId->Option dm)(f:FuncId)(all:List AV)(h:ab):Option HR:=
 match FT f with
 | some fi=>
  if fi.N<all.length then none else
  match run fi.body ⟨⟨fi.aY.map (fun t=>(all[t]?).getD cM),[],h,[]⟩,[]⟩ with
  | some (e,s)=>
   if e = .normal\/e = .ret then
    match mu s.s.cI s with
    | some s=>match dK s.s fi.results with
      | some vs=>some (gh (bk vs) h.length s)
      | none=>none
    | none=>none
   else none
  | none=>none
 | none=>none
def iM (run:al->au->Option (Ex×au))(ext:FuncId->List AV->ab->Option HR)(FT:FuncId->Option dm):fc:=fun g as h=>
 match g with
 | .fn (.func f) first cap=>
  match ext f (first++as++cap) h with
  | some r=>some r
  | none=>iF run FT f (first++as++cap) h
 | .fn (.yield b) [] []=>
  match h.at b with
  | some (.loop .ready none pe ps a bd)=>
   match qj ⟨pe,[],h,[]⟩ ps as with
   | some s0=>match run a ⟨s0,[]⟩ with
     | some (.normal,s1)=>match s1.s.hp.at b with
       | some (.loop .ready none pe' ps' a' bd')=>
        match run bd ⟨{ s1.s with hp:=s1.s.hp.put b (some (.loop .busy none pe' ps' a' bd')) },b::s1.wr⟩ with
        | some (e,s2)=>match s2.s.hp.at b,s2.s.cI with
          | some (.loop .busy none pe' ps' a' bd'),[]=>
           let o:bV:=if e = .normal then .loop .ready none pe' ps' a' bd' else .loop .done (some e) pe' ps' a' bd'
           some (gh (.bool (decide (e = .normal))) h.length ⟨{ s2.s with hp:=s2.s.hp.put b (some o) },b::s2.wr⟩)
          | _,_=>none
        | none=>none
       | _=>none
     | _=>none
   | none=>none
  | _=>none
 | _=>none
def bK (ext:FuncId->List AV->ab->Option HR)(inv:fy)(FT:FuncId->Option dm):Nat->al->au->Option (Ex×au)
 | 0,_,_=>none
 | n+1,c,s=>
  match c with
  | .skip=>some (.normal,s)
  | .seq a b=>match bK ext inv FT n a s with
    | some (.normal,s')=>bK ext inv FT n b s'
    | r=>r
  | .cond x a b=>match s.s.ae x with
    | some (.bool t)=>bK ext inv FT n (if t then a else b) s
    | _=>none
  | .block id c=>match bK ext inv FT n c s with
    | some (.exit id',s')=>if id'=id then some (.normal,s') else some (.exit id',s')
    | r=>r
  | .loop c=>match bK ext inv FT n c s with
    | some (.normal,s')=>bK ext inv FT n (.loop c) s'
    | r=>r
  | .exit id=>some (.exit id,s)
  | .ret=>some (.ret,s)
  | .region ops=>match fH (iM (bK ext inv FT n) ext FT) inv ops ⟨{ s.s with lo:=[] },s.wr⟩ with
    | some s'=>some (.normal,s')
    | none=>none
  | .draw ops=>match eK (iM (bK ext inv FT n) ext FT) inv ops ⟨{ s.s with lo:=[] },s.wr⟩ [] with
    | some s'=>some (.normal,s')
    | none=>none
  | .rangeFunc inner f ps a b=>
   if inner then none else
   match s.s.ae f with
   | some (.fn (.func g) fi ca)=>
    match iF (bK ext inv FT n) FT g (fi++[.fn (.yield (s.s.hp.length+1)) [] []]++ca) (s.s.hp++[some .ie,some (.loop .ready none s.s.pe ps a b)]) with
    | some r=>match r.h.at (s.s.hp.length+1) with
      | some (.loop st pend pe' ps' a' b')=>
       if st = .busy then none else
       some (pend.getD .normal,⟨{ s.s with hp:=r.h.put (s.s.hp.length+1) (some (.loop .exhausted pend pe' ps' a' b')),cI:=s.s.hp.length::s.s.cI },(s.s.hp.length+1)::r.wr++s.wr⟩)
      | _=>none
    | none=>none
   | _=>none
  | .bad=>none
end Go.Ab
namespace Go.Ab
abbrev zm (a b:Nat):bz:=⟨.l a,.mv (.p b),none⟩
abbrev zw (a b:Nat):bz:=⟨.p a,.mv (.l b),none⟩
abbrev zn (a b:Nat):bz:=⟨.l a,.mv (.l b),none⟩
abbrev zi (a:Nat)(n:Int):bz:=⟨.p a,.mv (.c (.int .i64 n)),none⟩
abbrev z1 (a f x:Nat):bz:=⟨.l a,.call (.c (.fn (.func f) [] [])) [.l x],none⟩
abbrev z2 (a f x y:Nat):bz:=⟨.l a,.call (.c (.fn (.func f) [] [])) [.l x,.l y],none⟩
abbrev ze (a i x:Nat):bz:=⟨.l a,.extract i (.l x),none⟩
abbrev za (a k x y:Nat):bz:=⟨.l a,.dE none k (.l x) (.l y),none⟩
abbrev zd (a n x:Nat):bz:=⟨.l a,.load n false (.l x),none⟩
abbrev zt (a n x:Nat):bz:=⟨.l a,.load n true (.p x),none⟩
abbrev zT (a n x:Nat):bz:=⟨.l a,.load n true (.l x),none⟩
abbrev zs (n a x:Nat):bz:=⟨.no,.store n (.p a) (.l x),none⟩
abbrev zS (n a x:Nat):bz:=⟨.no,.store n (.l a) (.l x),none⟩
abbrev zf (a n x:Nat):bz:=⟨.l a,.uZ n (.p x),none⟩
abbrev zl (a x:Nat):bz:=⟨.l a,.len .sl (.l x),none⟩
abbrev zL (a x:Nat):bz:=⟨.l a,.len .str (.l x),none⟩
abbrev zb (a:Nat)(o:BinOp)(x y:Nat):bz:=⟨.l a,.bin o (.l x) (.l y),none⟩
abbrev zc (a:Nat)(o:BinOp)(x:Nat)(n:Int):bz:=⟨.l a,.bin o (.l x) (.c (.int .i64 n)),none⟩
abbrev zq (a:Nat)(o:BinOp)(x:Nat)(n:Int):bz:=⟨.l a,.bin o (.p x) (.c (.int .i64 n)),none⟩
abbrev zr (a:Nat)(o:BinOp)(x y:Nat):bz:=⟨.l a,.bin o (.p x) (.p y),none⟩
abbrev zp (a c x:Nat):bz:=⟨.l a,.pick (.l c) (.l x) (.c (.bool false)),none⟩
abbrev zP (a c x:Nat):bz:=⟨.l a,.pick (.l c) (.c (.bool true)) (.l x),none⟩
abbrev zx (a e n x:Nat):bz:=⟨.p a,.box e n (.p x),none⟩
abbrev zu (a x:Nat):bz:=⟨.l a,.un .not (.l x),none⟩
theorem nca{α:Type}:(∀l:List α,[]++l=l) /\ ∀(a:α) (l m:List α),(a::l)++m=a::(l++m):=⟨List.nil_append,fun _ _ _=>List.cons_append⟩
abbrev kI (n:Int):aZ:=.c (.int .i64 n)
abbrev kU (n:Int):aZ:=.c (.int .u64 n)
abbrev kW (n:Int):aZ:=.c (.int .u32 n)
abbrev AV.iV (n:Int):AV:=.int .i64 n
abbrev AV.uV (n:Int):AV:=.int .u64 n
abbrev zR (l:List bz)(c:al):al:=.seq (.region l) c
abbrev kF (f:Nat):aZ:=.c (.fn (.func f) [] [])
abbrev zg (o:bz)(k:Nat)(b:Bool):bz:=⟨o.dst,o.op,some (.l k,b)⟩
abbrev zD0:List UInt8:=[0,1,2,2,3,3,3,3,4,4,4,4,4,4,4,4,5,5,5,5,5,5,5,5,5,5,5,5,5,5,5,5,6,6,6,6,6,6,6,6,6,6,6,6,6,6,6,6,6,6,6,6,6,6,6,6,6,6,6,6,6,6,6,6,7,7,7,7,7,7,7,7,7,7,7,7,7,7,7,7,7,7,7,7,7,7,7,7,7,7,7,7,7,7,7,7,7,7,7,7,7,7,7,7,7,7,7,7,7,7,7,7,7,7,7,7,7,7,7,7,7,7,7,7,7,7,7,7,8,8,8,8,8,8,8,8,8,8,8,8,8,8,8,8,8,8,8,8,8,8,8,8,8,8,8,8,8,8,8,8,8,8,8,8,8,8,8,8,8,8,8,8,8,8,8,8,8,8,8,8,8,8,8,8,8,8,8,8,8,8,8,8,8,8,8,8,8,8,8,8,8,8,8,8,8,8,8,8,8,8,8,8,8,8,8,8,8,8,8,8,8,8,8,8,8,8,8,8,8,8,8,8,8,8,8,8,8,8,8,8,8,8,8,8,8,8,8,8,8,8,8,8,8,8,8,8]
abbrev zD1:List UInt8:=[65,116,111,105]
abbrev zD2:List UInt8:=[48,49,50,51,52,53,54,55,56,57]
abbrev zD3:List UInt8:=[104,117,110,100,114,101,100,116,104,115]
abbrev zD4:List UInt8:=[116,105,109,101]
abbrev zD5:List UInt8:=[112,111,105,110,116,115]
abbrev zD6:List UInt8:=[108,101,110,103,116,104]
abbrev zD7:List UInt8:=[101,120,97,99,116]
abbrev zD8:List UInt8:=[116,101,110,116,104,115]
abbrev zD9:List UInt8:=[110,111,110,101]
abbrev zD10:List UInt8:=[99,101,110,116,105,109,101,116,114,101,115]
end Go.Ab
namespace Go.Ab
def qk (rec:Value->Option AV):List Value->Option (List AV)
 | []=>some []
 | v::r=>match rec v,qk rec r with
   | some a,some l=>some (a::l)
   | _,_=>none
def od:Nat->Value->Option AV
 | 0,_=>none
 | n+1,v=>
  match v with
  | .bool b=>some (.bool b)
  | .int k m=>some (.int k m)
  | .string s=>some (.str s.data.toList)
  | .pointer none=>some .fx
  | .slice none 0 0=>some .ah
  | .map none=>some .ee
  | .nilFunc=>some .fk
  | .nilIface=>some .eH
  | .func (.func f) ⟨[]⟩ ⟨[]⟩=>some (.fn (.func f) [] [])
  | .agg ⟨cs⟩=>(qk (fun v=>od n v) cs).map .agg
  | .tuple ⟨cs⟩=>(qk (fun v=>od n v) cs).map .aw
  | _=>none
def idx (t:Nat):List Nat->Nat->Option Nat
 | [],_=>none
 | u::r,i=>if u=t then some i else idx t r (i+1)
structure Cx where
 P:Program
 gl:Nat->Option AV
 aY:List Nat
 N:Nat
def ij (C:Cx):Operand->Option aZ
 | .tmp t=>match idx t C.aY 0 with
   | some i=>some (.p i)
   | none=>some (.l t)
 | .const v=>(od 5 v).map .c
 | .func f=>some (.c (.fn (.func f) [] []))
 | .global g=>(C.gl g).map .c
def iZ (C:Cx):List Operand->Option (List aZ)
 | []=>some []
 | x::xs=>match ij C x,iZ C xs with
   | some a,some l=>some (a::l)
   | _,_=>none
def mQ (C:Cx):Option Operand->Option (Option aZ)
 | none=>some none
 | some x=>(ij C x).map some
def Aw:TypeDesc->Bool
 | .struct _ | .array _ _=>true
 | _=>false
def shapeOf (P:Program)(t:TypeId):Option (Nat×Bool):=
 match P.info? t,P.underlying t with
 | some i,some d=>some (i.size,Aw d)
 | _,_=>none
def zeroOf (P:Program)(t:TypeId):Option AV:=
 match P.info? t with
 | some i=>match i.zero with
   | some v=>od 5 v
   | none=>none
 | none=>none
def si (P:Program)(rec:TypeId->Option iA):List Field->Option (List (Nat×Nat×Bool×iA))
 | []=>some []
 | f::r=>match si P rec r with
   | some l => if f.name == "_" then some l else
     match shapeOf P f.type,rec f.type with
     | some (n,ag),some e=>some ((f.offset,n,ag,e)::l)
     | _,_=>none
   | none=>none
def sm (sz:Nat)(ag:Bool)(q:iA):Nat->Nat->List (Nat×Nat×Bool×iA)
 | 0,_=>[]
 | n+1,i=>(i*sz,sz,ag,q)::sm sz ag q n (i+1)
def ja (P:Program):Nat->Bool->TypeId->Option iA
 | 0,_,_=>none
 | d+1,g,t=>
  match P.underlying t with
  | some .bool=>some .bool
  | some (.int _)=>some .int
  | some .string=>some .str
  | some (.pointer _)=>some (.ref .ptr)
  | some (.slice _)=>some (.ref .slice)
  | some (.map _ _)=>some (.ref .map)
  | some (.func _ _ _)=>some (.ref .func)
  | some (.interface ms)=>some (.iface (g && !ms.isEmpty))
  | some (.struct fs)=>if P.stoodInHeld t then none else (si P (fun t=>ja P d true t) fs.toList).map .rW
  | some (.array n e)=>match shapeOf P e,ja P d true e with
    | some (sz,ag),some q=>some (.rW (sm sz ag q n 0))
    | _,_=>none
  | _=>none
def mw:Operand->Bool
 | .const _=>true
 | _=>false
def lv (C:Cx)(place:Nat->Option (Nat×Nat)):List (Nat×Operand)->Option (List (Nat×Nat×aZ))
 | []=>some []
 | (i,x)::r=>match place i,ij C x,lv C place r with
   | some (o,n),some a,some l=>some ((o,n,a)::l)
   | _,_,_=>none
def ql (P:Program):List Field->Option (List (Nat×Nat))
 | []=>some []
 | f::r=>match P.info? f.type,ql P r with
   | some i,some l=>some ((f.offset,i.size)::l)
   | _,_=>none
def jI (P:Program)(t:TypeId):Option (TypeId×Nat×Nat):=
 match P.underlying t with
 | some (.slice e)=>match P.info? e with
   | some i=>some (e,i.size,i.bytes)
   | none=>none
 | _=>none
def keyOf (P:Program)(t:TypeId):Option iY:=
 match P.underlying t with
 | some (.int _)=>some .int
 | some .string=>some .str
 | _=>none
def sn:BinOp->Bool
 | .eql | .neq=>true
 | _=>false
def vk (P:Program)(t:TypeId):Bool:=
 match P.underlying t with
 | some (.int _)|some .string=>true
 | _=>false
def vn (P:Program)(e:TypeId)(n:Nat):Bool:=
 match (zeroOf P e).bind AV.cells with
 | some z=>z.length == n
 | none=>false
def Ax (P:Program)(t:TypeId):Bool:=
 match P.underlying t with
 | some (.struct _)|some (.array _ _)=>P.eqGuardType P.depth t
 | _=>false
def Qq:Fn->Bool
 | .yield _=>true
 | _=>false
def jY (P:Program)(e:TypeId):Bool:=
 match P.info? e with
 | some i=>match i.desc with
   | .named n _ => n == "strings.Builder"
   | _=>false
 | none=>false
def Ay (P:Program)(t:TypeId):Bool:=
 match P.underlying t with
 | some (.pointer e)=>jY P e
 | _=>false
def jJ (C:Cx)(o:Oper):Option bI:=
 let P:=C.P
 let d:=ij C
 match o.op with
 | .move x | .assign x=>(d x).map .mv
 | .pick c a b=>match d c,d a,d b with
   | some c,some a,some b=>some (.pick c a b)
   | _,_,_=>none
 | .alloc e=>match zeroOf P e with
   | some z=>z.cells.map (.alloc e)
   | none=>none
 | .box e x=>match shapeOf P e,d x with
   | some (n,_),some x=>some (.box e n x)
   | _,_=>none
 | .build t ps=>match zeroOf P t with
   | some z=>match z.cells,P.underlying t with
     | some zc,some (.struct fs)=>match ql P fs.toList with
       | some pl=>(lv C (pl[·]?) ps.toList).map (.build zc)
       | none=>none
     | some zc,some (.array _ e)=>match P.info? e with
       | some i=>(lv C (fun j=>some (j*i.size,i.size)) ps.toList).map (.build zc)
       | none=>none
     | _,_=>none
   | none=>none
 | .buildSlice t len ps=>match jI P t with
   | some (e,n,_)=>match (zeroOf P e).bind AV.cells,lv C (fun j=>some (j*n,n)) ps.toList with
     | some z,some l=>if len*n<=2^24/\z.length=n/\0<n then some (.dW e len n z l) else none
     | _,_=>none
   | none=>none
 | .load t a=>match shapeOf P t,d a with
   | some (n,ag),some a=>some (.load n ag a)
   | _,_=>none
 | .store t a x=>match shapeOf P t,d a,d x with
   | some (n,_),some a,some x=>some (.store n a x)
   | _,_,_=>none
 | .nilCheck x=>(d x).map .uY
 | .binOp op t x y _=>match d x,d y with
   | some a,some b=>
    if sn op && !vk P t then
     if Ay P t && !(mw x || mw y) then some (.rY (op == .neq) a b) else
     if Ax P t then none else
     (ja P 20 (!(mw x || mw y)) t).map fun e=>.eq (op == .neq) e a b
    else some (.bin op a b)
   | _,_=>none
 | .unOp op _ x=>(d x).map (.un op)
 | .convert src dst x=>match P.underlying src,P.underlying dst,d x with
   | some (.int _),some (.int k),some a=>some (.gW k a)
   | some (.int _),some .string,some a=>some (.Ao a)
   | some .string,some .string,some a=>some (.Ap a)
   | some .string,some (.slice e),some a=>match P.underlying e with
     | some (.int .u8)=>if jY P e then none else some (.pZ e a)
     | _=>none
   | some (.slice e),some .string,some a=>match P.underlying e with
     | some (.int .u8)=>some (.rX a)
     | _=>none
   | some (.pointer t),some .unsafePointer,some a=>match P.info? t with
     | some i=>if i.size=0 then none else some (.qc none a)
     | none=>none
   | some .unsafePointer,some (.pointer u),some a=>match P.info? u with
     | some _=>if jY P u && liesAt P P.depth u (P.cellsOf u/P.cellsOf u) 0 u 1 then some (.qc (some (u,P.cellsOf u)) a) else none
     | none=>none
   | _,_,_=>none
 | .makeInterface t x=>match P.underlying t with
   | some (.interface _)=>none
   | some _=>(d x).map (.sd t)
   | none=>none
 | .typeAssert x _ t ok=>match P.underlying t with
   | some (.interface _)=>none
   | some _=>match d x,zeroOf P t with
     | some x,some z=>some (.As t z ok x)
     | _,_=>none
   | none=>none
 | .makeFunc f fi ca=>if Qq f then none else match iZ C fi.toList,iZ C ca.toList with
   | some a,some b=>some (.se f a b)
   | _,_=>none
 | .makeMap _ none=>some .kC
 | .makeSlice t l c=>match jI P t,d l,d c with
   | some (e,n,by'),some l,some c=>match (zeroOf P e).bind AV.cells with
     | some z=>if z.length=n/\0<n then some (.iB e n by' z l c) else none
     | none=>none
   | _,_,_=>none
 | .slice t x lo hi mx=>match P.underlying t,d x,mQ C lo,mQ C hi,mQ C mx with
   | some .string,some x,some l,some h,some none=>some (.slice .str 1 x l h none)
   | some (.slice e),some x,some l,some h,some m=>match P.info? e with
     | some i=>some (.slice .sl i.size x l h m)
     | none=>none
   | some (.array n e),some x,some l,some h,some none=>match P.info? e with
     | some i=>some (.qe n i.size x l h)
     | none=>none
   | _,_,_,_,_=>none
 | .fieldAddr t x f=>match P.underlying t,d x with
   | some (.struct fs),some x=>match fs[f]? with
     | some f=>match P.info? f.type with
       | some i=>if i.size=0 then none else some (.uZ f.offset x)
       | none=>none
     | none=>none
   | _,_=>none
 | .field t x f=>match P.underlying t,d x with
   | some (.struct fs),some x=>match fs[f]? with
     | some f=>match shapeOf P f.type with
       | some (n,ag)=>some (.field f.offset n ag x)
       | none=>none
     | none=>none
   | _,_=>none
 | .indexAddr t x i=>match P.underlying t,d x,d i with
   | some (.array n e),some x,some i=>match P.info? e with
     | some inf=>some (.dE (some n) inf.size x i)
     | none=>none
   | some (.slice e),some x,some i=>match P.info? e with
     | some inf=>some (.dE none inf.size x i)
     | none=>none
   | _,_,_=>none
 | .index t x i=>match P.underlying t,d x,d i with
   | some .string,some x,some i=>some (.index x i)
   | some (.array n e),some x,some i=>match shapeOf P e with
     | some (sz,ag)=>some (.Ar n sz ag x i)
     | none=>none
   | _,_,_=>none
 | .lookup t x i ok=>match P.underlying t,d x,d i with
   | some (.map k e),some x,some i=>match keyOf P k,zeroOf P e with
     | some k,some z=>some (.lookup k z x i ok)
     | _,_=>none
   | _,_,_=>none
 | .mapUpdate t m i x | .insert t m i x=>match P.underlying t,d m,d i,d x with
   | some (.map k _),some m,some i,some x=>(keyOf P k).map fun k=>.jA k m i x
   | _,_,_,_=>none
 | .range t x=>match P.underlying t,d x with
   | some .string,some x=>some (.range x)
   | _,_=>none
 | .next x true=>(d x).map .next
 | .extract x i=>(d x).map (.extract i)
 | .call c=>match c.callee with
   | .value f=>match d f,iZ C c.args.toList with
     | some f,some as=>some (.call f as)
     | _,_=>none
   | .invoke r name=>match d r,iZ C c.args.toList with
     | some r,some as=>some (.invoke r name as)
     | _,_=>none
   | .builtin b=>match b,c.argTypes.toList,iZ C c.args.toList with
     | .len,[t],some [x]=>match P.underlying t with
       | some (.array n _)=>some (.len (.arr n) x)
       | some (.map _ _)=>some (.sf x)
       | some .string=>some (.len .str x)
       | some (.slice _)=>some (.len .sl x)
       | _=>none
     | .cap,[t],some [x]=>match P.underlying t with
       | some (.slice _)=>some (.cap x)
       | _=>none
     | .append,[t,u],some [x,y]=>match jI P t,P.underlying u with
       | some (e,n,by'),some .string=>if n=1/\vn P e n=true/\jY P e=false then some (.append e n by' x y) else none
       | some (e,n,by'),some (.slice _)=>if 0<n/\vn P e n=true/\jY P e=false then some (.append e n by' x y) else none
       | _,_=>none
     | .copy,[t,_],some [x,y]=>match jI P t with
       | some (_,n,_)=>if 0<n then some (.copy n x y) else none
       | none=>none
     | .clear,[t],some [x]=>match jI P t with
       | some (e,n,_)=>match (zeroOf P e).bind AV.cells with
         | some z=>if z.length=n/\0<n then some (.sc n z x) else none
         | none=>none
       | none=>none
     | .unsafeSliceData,[t],some [x]=>match P.underlying t with
       | some (.slice _)=>some (.Aq x)
       | _=>none
     | .unsafeString,[t,_],some [x,n]=>match P.underlying t with
       | some (.pointer e)=>if P.cellsOf e=1 then some (.rZ e x n) else none
       | _=>none
     | .max,_,some xs=>some (.mm true xs)
     | .min,_,some xs=>some (.mm false xs)
     | _,_,_=>none
 | _=>none
def lC (C:Cx):Option Tmp->Option fN
 | none=>some .no
 | some t=>if t<C.N then
     match idx t C.aY 0 with
     | some i=>some (.p i)
     | none=>some (.l t)
   else none
def vo (C:Cx)(ops:List Oper):Option (Nat×Bool)->Option (Option (aZ×Bool))
 | none=>some none
 | some (j,w)=>match ops[j]? with
   | some o=>match o.dst with
     | some t=>(ij C (.tmp t)).map fun x=>some (x,w)
     | none=>none
   | none=>none
def vt (C:Cx)(ops:List Oper)(o:Oper):Option bz:=
 match lC C o.dst,jJ C o,vo C ops o.guard with
 | some d,some op,some g=>some ⟨d,op,g⟩
 | _,_,_=>none
def kE (C:Cx)(ops:List Oper):List Oper->Option (List bz)
 | []=>some []
 | o::r=>match vt C ops o,kE C ops r with
   | some a,some l=>some (a::l)
   | _,_=>none
def Qr (ops:List Oper):List Nat:=
 ops.foldl (fun acc o=>acc++[o.after.toList.foldl (fun s e=>if Region.binds .any e then s ||| 2^e.on ||| acc.getD e.on 0 else s) 0]) []
def jZ (bits i:Nat):List Nat:=(List.range i).filter fun j=>!bits.testBit j
def qm (ops:List Oper)(bits:List Nat):Bool:=
 ops.zipIdx.all fun (o,i)=>
  o.after.toList.all (fun e=>!Region.binds .any e || decide (e.on<i)) &&
  (List.range i).all fun j=>!(bits.getD i 0).testBit j || o.after.toList.any fun e=>Region.binds .any e && (e.on == j || (decide (j<e.on) && (bits.getD e.on 0).testBit j))
def qo (l:List bz)(bits:List Nat):Bool:=
 l.zipIdx.all fun (o,i)=>(jZ (bits.getD i 0) i).all fun j=>match l[j]? with|some oj=>qi oj o|none=>false
def vu (C:Cx)(ops:List Oper)(draw:Bool):Option al:=
 match kE C ops ops with
 | none=>none
 | some l=>
  if draw then
   let bits:=Qr ops
   if qm ops bits && qo l bits then some (.draw (l.zipIdx.map fun (o,i)=>(o,jZ (bits.getD i 0) i))) else none
  else some (.region l)
def mR (C:Cx):List Tmp->Option (List fN)
 | []=>some []
 | t::r=>match lC C (some t),mR C r with
   | some d,some l=>some (d::l)
   | _,_=>none
def gu (C:Cx)(rd:Bool):Code->Option al
 | .skip=>some .skip
 | .region _ ops draw=>some ((vu C ops.toList draw).getD .bad)
 | .seq a b=>match gu C rd a,gu C rd b with
   | some a,some b=>some (.seq a b)
   | _,_=>none
 | .cond c a b=>match ij C c,gu C rd a,gu C rd b with
   | some c,some a,some b=>some (.cond c a b)
   | _,_,_=>none
 | .block id c=>(gu C rd c).map (.block id)
 | .loop c=>(gu C rd c).map .loop
 | .exit id=>some (.exit id)
 | .ret=>some .ret
 | .scope c=>(gu C rd c).map fun c=>.seq c .skip
 | .label _=>some .skip
 | .rangeFunc f ps a b=>match ij C f,mR C ps.toList,gu C true a,gu C true b with
   | some f,some ps,some a,some b=>some (.rangeFunc rd f ps a b)
   | _,_,_,_=>none
 | _=>some .bad
def my (C:Cx):List ResultVar->Option (List fO)
 | []=>some []
 | .tmp t::r=>match ij C (.tmp t),my C r with
   | some x,some l=>some (.var x::l)
   | _,_=>none
 | .cell t ty::r=>match ij C (.tmp t),shapeOf C.P ty,my C r with
   | some x,some (n,ag),some l=>some (.cell n ag x::l)
   | _,_,_=>none
def vv (P:Program)(gl:Nat->Option AV)(aY:List Nat)(f:Func):Option dm:=
 let C:Cx:=⟨P,gl,aY,f.ntmps⟩
 match f.body with
 | none=>none
 | some c=>
  match gu C false c,my C f.results.toList with
  | some b,some r=>if aY.all (· < f.ntmps) && decide aY.Nodup then some ⟨f.ntmps,aY,r,b⟩ else none
  | _,_=>none
def fP (P:Program)(t:TypeId)(name:String):Option FuncId:=
 match P.info? t,P.underlying t with
 | some i,some u=>match i.methods.toList.find? (·.name == name) with
   | some m=>match m.func,m.path.toList with
     | some (f,ptr),[]=>match u,ptr with
       | .pointer _,true=>some f
       | .pointer _,false=>none
       | _,false=>some f
       | _,true=>none
     | _,_=>none
   | none=>none
 | _,_=>none
end Go.Ab
namespace Go.Ab
def GZ (P:Program)(gl:Nat->Option AV)(aY:List (List Nat))(f:FuncId):Option dm:=
 match P.funcs[f]?,aY[f]? with
 | some fn,some p=>vv P gl p fn
 | _,_=>none
end Go.Ab
namespace Go.Ab
variable {w w':World} {x:AV} {l:List AV} {y v:Value} {m:List Value} {h h':ab} {a:Addr} {n:Nat}
inductive BS where
 | fresh|dead|nil|live (c d:Nat)
structure aW where
 at':Nat->BS
 X:Nat->Prop
instance:CoeFun aW (fun _=>Nat->BS):=⟨aW.at'⟩
def dy (ρ:aW)(c:Nat):Prop:=(∀b d,ρ b≠.live c d)/\¬ρ.X c
inductive V (ρ:aW) (w:World):AV->Value->Prop
 | dO (v:Value):V ρ w .dO v
 | bool (b:Bool):V ρ w (.bool b) (.bool b)
 | int (k:IntKind) (n:Int):V ρ w (.int k n) (.int k n)
 | str (s:List UInt8):V ρ w (.str s) (.string ⟨s.toArray⟩)
 | fx:V ρ w .fx (.pointer none)
 | ptr {b c d:Nat} (o:Nat) (h:ρ b = .live c d):V ρ w (.ptr b o) (.pointer (some ⟨c,o+d,none⟩))
 | fA {b:Nat} (o c o':Nat) (h:ρ b = .dead):V ρ w (.ptr b o) (.pointer (some ⟨c,o',none⟩))
 | vp {l:List AV} (c o:Nat) (g:Nat->Value) (hf:l≠[]->dy ρ c) (hc:∀i:Nat,i<l.length->w.cell? ⟨c,o+i,none⟩=some (g i))
     (hg:∀(i:Nat) x,l[i]? = some x->V ρ w x (g i)):V ρ w (.vp l) (.pointer (some ⟨c,o,none⟩))
 | ah:V ρ w .ah (.slice none 0 0)
 | sl {b c d o len esz capC:Nat} {cap:Option Nat} (h:ρ b = .live c d) (hl:len<=capC) (hcap:∀n,cap=some n->capC=n)
     (hb:∃cs e fr,w.heap[c]? = some (.cells cs e fr)/\o+d+capC*esz<=cs.size):V ρ w (.sl b o len esz cap) (.slice (some ⟨c,o+d,none⟩) len capC)
 | gO {b esz:Nat} (h:ρ b = .nil):V ρ w (.sl b 0 0 esz none) (.slice none 0 0)
 | fQ {b o len esz capC:Nat} {cap:Option Nat} (c o':Nat) (h:ρ b = .dead) (hl:len<=capC) (hcap:∀n,cap=some n->capC=n):V ρ w (.sl b o len esz cap) (.slice (some ⟨c,o',none⟩) len capC)
 | gw {b esz:Nat} (h:ρ b = .dead):V ρ w (.sl b 0 0 esz none) (.slice none 0 0)
 | gP {b esz:Nat} (a:Addr) (h:ρ b = .dead):V ρ w (.sl b 0 0 esz (some 0)) (.slice (some a) 0 0)
 | vs {l:List AV} {len capC:Nat} {cap:Option Nat} (c o:Nat) (g:Nat->Value) (hf:l≠[]->dy ρ c) (hl:len<=capC) (hcap:∀n,cap=some n->capC=n)
     (hc:∀i:Nat,i<l.length->w.cell? ⟨c,o+i,none⟩=some (g i)) (hg:∀(i:Nat) x,l[i]? = some x->V ρ w x (g i)):V ρ w (.vs l len cap) (.slice (some ⟨c,o,none⟩) len capC)
 | fB {cap:Option Nat} (hcap:∀n,cap=some n->n=0):V ρ w (.vs [] 0 cap) (.slice none 0 0)
 | gA {cap:Option Nat} (a:Addr) (hcap:∀n,cap=some n->n=0):V ρ w (.vs [] 0 cap) (.slice (some a) 0 0)
 | ee:V ρ w .ee (.map none)
 | map {b c:Nat} (h:ρ b = .live c 0):V ρ w (.map b) (.map (some c))
 | jb {b:Nat} (c:Nat) (h:ρ b = .dead):V ρ w (.map b) (.map (some c))
 | yield {b c d:Nat} (h:ρ b = .live c d):V ρ w (.fn (.yield b) [] []) (.func (.yield c) #[] #[])
 | fn {f:Fn} {fi ca:List AV} {fi' ca':List Value} (hf:∀l,f≠.yield l) (h1:fi.length=fi'.length) (h2:ca.length=ca'.length)
     (g1:∀(i:Nat) x y,fi[i]? = some x->fi'[i]? = some y->V ρ w x y) (g2:∀(i:Nat) x y,ca[i]? = some x->ca'[i]? = some y->V ρ w x y):V ρ w (.fn f fi ca) (.func f fi'.toArray ca'.toArray)
 | iN {b:Nat} (c:Nat) (h:ρ b = .dead):V ρ w (.fn (.yield b) [] []) (.func (.yield c) #[] #[])
 | fk:V ρ w .fk .nilFunc
 | iface {t:TypeId} {x:AV} {y:Value} (h:V ρ w x y):V ρ w (.iface t x) (.iface t y)
 | eH:V ρ w .eH .nilIface
 | agg {l:List AV} {m:List Value} (h:l.length=m.length) (g:∀(i:Nat) x y,l[i]? = some x->m[i]? = some y->V ρ w x y):V ρ w (.agg l) (.agg m.toArray)
 | aw {l:List AV} {m:List Value} (h:l.length=m.length) (g:∀(i:Nat) x y,l[i]? = some x->m[i]? = some y->V ρ w x y):V ρ w (.aw l) (.tuple m.toArray)
def VL (ρ:aW)(w:World)(l:List AV)(m:List Value):Prop:=
 l.length=m.length/\∀(i:Nat) x y,l[i]? = some x->m[i]? = some y->V ρ w x y
theorem V.Az {ρ:aW}(s:ByteArray):V ρ w (.str s.data.toList) (.string s):=by
 have:=V.str (ρ:=ρ) (w:=w) s.data.toList;omega
theorem VL.nil {ρ:aW}:VL ρ w [] []:=⟨rfl,ax⟩
theorem VL.cons {ρ:aW}(h:V ρ w x y)(h':VL ρ w l m):VL ρ w (x::l) (y::m):=by
 refine⟨by simp[h'.1],fun i a b ha hb=>?_⟩;cases i with
 | zero=>grind
 | succ i=>simp at ha hb;exact h'.2 i a b ha hb
theorem VL.head {ρ:aW}(h:VL ρ w (x::l) (y::m)):V ρ w x y:=h.2 0 x y rfl rfl
theorem VL.tail {ρ:aW}(h:VL ρ w (x::l) (y::m)):VL ρ w l m:=
 ⟨by simpa using h.1,fun i a b ha hb=>h.2 (i+1) a b bc bc⟩
theorem VL.cons_inv {ρ:aW}(h:VL ρ w (x::l) m):∃y m',m=y::m'/\V ρ w x y/\VL ρ w l m':=by
 cases m with
 | nil=>exact absurd h.1 ax
 | cons y m'=>exact⟨y,m',rfl,h.head,h.tail⟩
theorem VL.kG {ρ:aW}(h:VL ρ w [] m):m=[]:=by
 have:=h.1<;>grind
theorem VL.append {ρ:aW}:∀{l l':List AV} {m m':List Value},VL ρ w l m->VL ρ w l' m'->VL ρ w (l++l') (m++m')
 | [],_,_,_,h,h'=>by rw[h.kG];exact h'
 | _::_,_,_,_,h,h'=>by
  obtain⟨y,m1,rfl,hv,hl⟩:=h.cons_inv;exact .cons hv (hl.append h')
theorem VL.drop {ρ:aW}(h:VL ρ w l m)(n:Nat):VL ρ w (l.drop n) (m.drop n):=
 ⟨by simp[h.1],fun i a b ha hb=>h.2 (n+i) a b bc bc⟩
theorem VL.take {ρ:aW}(h:VL ρ w l m)(n:Nat):VL ρ w (l.take n) (m.take n):=
 ⟨by simp[h.1],fun i a b ha hb=>by
  rw[c7]at ha hb;split at ha
  . rename_i hlt;rw[if_pos hlt]at hb;exact h.2 i a b ha hb
  grind⟩
structure ER (C:Cx)(ρ:aW)(w:World)(pe:List AV)(lo:List (Nat×AV))(tmps:Array Value):Prop where
 size:tmps.size=C.N
 nodup:C.aY.Nodup
 lt:∀t∈C.aY,t<C.N
 lE:pe.length=C.aY.length
 pe:∀(i:Nat) v t,pe[i]? = some v->C.aY[i]? = some t->V ρ w v (tmps.getD t undef)
 lo:∀t v,lo.lookup t=some v->t<C.N/\t∉C.aY/\V ρ w v (tmps.getD t undef)
def oe:Option Ex->Option Code->Prop
 | none,none=>True
 | some .ret,some .ret=>True
 | some (.exit i),some (.exit j)=>i=j
 | _,_=>False
def Fits (P:Program)(e:TypeId)(d n s:Nat):Prop:=d+n<=s/\(jY P e=true->d=0/\n=s)
def BR (P:Program)(gl:Nat->Option AV)(ρ:aW)(w:World)(b:Nat):bV->Prop
 | .cells l e=>(∃c d cs fr,ρ b = .live c d/\w.heap[c]? = some (.cells cs e fr)/\Fits P e d l.length cs.size/\(∀i,i<cs.size->w.frozen? ⟨c,i,none⟩=false) /\
     ∀(i:Nat) x y,l[i]? = some x->cs[i+d]? = some y->V ρ w x y)\/(ρ b = .nil/\l=[])
 | .map es=>∃c ms clk,ρ b = .live c 0/\w.heap[c]? = some (.map ms clk)/\es.length=ms.size /\
     ∀(i:Nat) kx vx m,es[i]? = some (kx,vx)->ms[i]? = some m->V ρ w kx m.key/\V ρ w vx m.val
 | .iter s pos=>∃c,ρ b = .live c 0/\w.heap[c]? = some (.stringIter ⟨s.toArray⟩ pos)
 | .ie=>∃c,ρ b = .live c 0/\w.heap[c]? = some (.deferred (some []))
 | .hole=>ρ b = .fresh
 | .loop st pend pe ps a bd=>∃c r aY N,ρ b = .live c 0/\w.heap[c]? = some (.loop r)/\r.state=st/\oe pend r.pending /\
     ER ⟨P,gl,aY,N⟩ ρ w pe [] r.tmps/\mR ⟨P,gl,aY,N⟩ r.params.toList=some ps/\gu ⟨P,gl,aY,N⟩ true r.assign=some a/\gu ⟨P,gl,aY,N⟩ true r.body=some bd
structure Mem (P:Program)(gl:Nat->Option AV)(ρ:aW)(h:ab)(w:World):Prop where
 dP:∀b o,h[b]? = some (some o)->BR P gl ρ w b o
 fresh:∀b,h.length<=b->ρ b = .fresh
 inj:∀b b' c d d',ρ b = .live c d->ρ b' = .live c d'->b=b'
 bound:∀b c d,ρ b = .live c d->c<w.heap.size
 xb:∀c,ρ.X c->c<w.heap.size
 xo:∀b c d,ρ b = .live c d->¬ρ.X c
 gl:∀g v,gl g=some v->V ρ w v (.pointer (some ⟨g,0,none⟩))
structure Ext (h h':ab)(ρ ρ':aW)(w w':World):Prop where
 os:w'.os=w.os
 tape:w'.tape=w.tape
 output:w'.output=w.output
 size:w.heap.size<=w'.heap.size
 len:h.length<=h'.length
 X:ρ'.X=ρ.X
 dO:∀b:Nat,h[b]? = some none->h'[b]? = some none
 same:∀b:Nat,h[b]? = some none->ρ' b=ρ b
 live:∀b c d,ρ b = .live c d->ρ' b = .live c d\/ρ' b = .dead
 dead:∀b,ρ b = .dead->ρ' b = .dead
 nil:∀b,ρ b = .nil->ρ' b = .nil\/ρ' b = .dead
 di:∀c,c<w.heap.size->(∀b d,ρ b = .live c d->h[b]? = some none)->w'.heap[c]? = w.heap[c]?
 back:∀b c d,ρ' b = .live c d->c<w.heap.size->ρ b = .live c d\/∃b0 d0,ρ b0 = .live c d0/\h[b0]? ≠ some none
 shape:∀(c:Nat) cs e fr,w.heap[c]? = some (.cells cs e fr)->∃cs' fr',w'.heap[c]? = some (.cells cs' e fr')/\cs'.size=cs.size
theorem Ext.refl (h:ab)(ρ:aW)(w:World):Ext h h ρ ρ w w:=
 ⟨rfl,rfl,rfl,b9 _,b9 _,rfl,fun _ h=>h,fun _ _=>rfl,bc,fun _ h=>h,bc,ax,bc,
  bc⟩
theorem Ext.trans {h1 h2:ab}{ρ ρ1 ρ2:aW}{w1 w2:World}(x:Ext h h1 ρ ρ1 w w1)(y:Ext h1 h2 ρ1 ρ2 w1 w2):Ext h h2 ρ ρ2 w w2 where
 os:=y.os.trans x.os
 tape:=y.tape.trans x.tape
 output:=y.output.trans x.output
 size:=i5 x.size y.size
 len:=i5 x.len y.len
 X:=y.X.trans x.X
 dO b hb:=y.dO b (x.dO b hb)
 same b hb:=(y.same b (x.dO b hb)).trans (x.same b hb)
 live b c d hb:=by
  rcases x.live b c d hb with h|h
  . exact y.live b c d h
  . exact .inr (y.dead b h)
 dead b hb:=y.dead b (x.dead b hb)
 nil b hb:=by
  rcases x.nil b hb with h|h
  . exact y.nil b h
  . exact .inr (y.dead b h)
 di c hc hb:=by
  rw[y.di c (fo hc x.size) ?_,x.di c hc hb];intro b d h1;rcases x.back b c d h1 hc with h|⟨b0,d0,h,hn⟩
  . exact x.dO b (hb b d h)
  grind
 back b c d h2 hc:=by
  rcases y.back b c d h2 (fo hc x.size) with h1|⟨b1,d1,h1,hn1⟩
  . exact x.back b c d h1 hc
  . rcases x.back b1 c d1 h1 hc with h0|h0
    . exact .inr ⟨b1,d1,h0,fun hu=>hn1 (x.dO b1 hu)⟩
    grind
 shape c cs e fr h0:=by
  obtain⟨cs1,fr1,h1,e1⟩:=x.shape c cs e fr h0;obtain⟨cs2,fr2,h2,e2⟩:=y.shape c cs1 e fr1 h1<;>grind
theorem Qs (h:w.cell? a=some v):∃cs e fr,w.heap[a.block]? = some (.cells cs e fr):=by
 unfold f9 at h;grind
theorem AA (h:w.cell? a=some v):a.block<w.heap.size:=by
 grind[Qs]
theorem Qt (h:w'.heap[a.block]? = w.heap[a.block]?):w'.cell? a=w.cell? a:=by
 unfold f9;rw[h]
theorem Ext.free {ρ ρ':aW}(x:Ext h h' ρ ρ' w w'){c:Nat}(hc:c<w.heap.size)(hf:dy ρ c):dy ρ' c:=by
 refine⟨fun b d hb=>?_,by rw[x.X];exact hf.2⟩;rcases x.back b c d hb hc with h|⟨b0,d0,h,_⟩
 . exact hf.1 _ _ h
 . exact hf.1 _ _ h
theorem Ext.cell {ρ ρ':aW}(x:Ext h h' ρ ρ' w w'){c o:Nat}{v:Value}(hf:dy ρ c)(hc:w.cell? ⟨c,o,none⟩=some v):w'.cell? ⟨c,o,none⟩=some v:=by
 have hlt:=AA hc;rw[Qt (w:=w)]
 . exact hc
 . exact x.di c hlt (fun b d hb=>absurd hb (hf.1 b d))
theorem V.mono {ρ ρ':aW}(x:Ext h h' ρ ρ' w w'){a:AV}{v:Value}(hv:V ρ w a v):V ρ' w' a v:=by
 induction hv with
 | dO v=>exact .dO v
 | bool b=>exact .bool b
 | int k n=>exact .int k n
 | str s=>exact .str s
 | fx=>exact .fx
 | ptr o hb=>
               rcases x.live _ _ _ hb with h|h
               . exact .ptr o h
               . exact .fA o _ _ h
 | fA o c o' hb=>exact .fA o c o' (x.dead _ hb)
 | @vp l c o g hf hc _ ih=>
  by_cases hl:l=[]
  . subst hl;exact .vp c o g ax ax ax
  . have h0:=hc 0 bc;exact .vp c o g (fun _=>x.free (AA h0) (hf hl)) (fun i hi=>x.cell (hf hl) (hc i hi)) ih
 | ah=>exact .ah
 | sl hb hl hcap hs=>
  obtain⟨cs,e,fr,h1,h2⟩:=hs;obtain⟨cs',fr',h3,h4⟩:=x.shape _ _ _ _ h1;rcases x.live _ _ _ hb with h|h
  . exact .sl h hl hcap ⟨cs',e,fr',h3,ac⟩
  . exact .fQ _ _ h hl hcap
 | gO hb=>
             rcases x.nil _ hb with h|h
             . exact .gO h
             . exact .gw h
 | fQ c o' hb hl hcap=>exact .fQ c o' (x.dead _ hb) hl hcap
 | gw hb=>exact .gw (x.dead _ hb)
 | gP a hb=>exact .gP a (x.dead _ hb)
 | @vs l len capC cap c o g hf hl hcap hc _ ih=>
  by_cases hn:l=[]
  . subst hn;exact .vs c o g ax hl hcap ax ax
  . have h0:=hc 0 bc;exact .vs c o g (fun _=>x.free (AA h0) (hf hn)) hl hcap (fun i hi=>x.cell (hf hn) (hc i hi)) ih
 | fB hcap=>exact .fB hcap
 | gA a hcap=>exact .gA a hcap
 | ee=>exact .ee
 | map hb=>
             rcases x.live _ _ _ hb with h|h
             . exact .map h
             . exact .jb _ h
 | jb v hb=>exact .jb v (x.dead _ hb)
 | yield hb=>
               rcases x.live _ _ _ hb with h|h
               . exact .yield h
               . exact .iN _ h
 | fn hf h1 h2 _ _ ih1 ih2=>exact .fn hf h1 h2 ih1 ih2
 | iN v hb=>exact .iN v (x.dead _ hb)
 | fk=>exact .fk
 | iface _ ih=>exact .iface ih
 | eH=>exact .eH
 | agg h _ ih=>exact .agg h ih
 | aw h _ ih=>exact .aw h ih
theorem VL.mono {ρ ρ':aW}(x:Ext h h' ρ ρ' w w'){l:List AV}{m:List Value}(hv:VL ρ w l m):VL ρ' w' l m:=
 ⟨hv.1,fun i a b ha hb=>(hv.2 i a b ha hb).mono x⟩
theorem ER.mono {C:Cx}{ρ ρ':aW}(x:Ext h h' ρ ρ' w w'){pe:List AV}{lo:List (Nat×AV)}{t:Array Value}(e:ER C ρ w pe lo t):ER C ρ' w' pe lo t:=
 ⟨e.size,e.nodup,e.lt,e.lE,fun i v t h1 h2=>(e.pe i v t h1 h2).mono x,fun t v h1=>let ⟨a,b,c⟩:=e.lo t v h1;⟨a,b,c.mono x⟩⟩
def jK (n:Nat)(ρ:aW):aW:=⟨fun b=>if b<n then ρ b else .fresh,ρ.X⟩
theorem dy.cut {ρ:aW}{c:Nat}(n:Nat)(h:dy ρ c):dy (jK n ρ) c:=by
 refine⟨fun b d hb=>?_,h.2⟩;simp only[jK]at hb;split at hb
 . exact h.1 b d hb
 grind
theorem fR (h:bO l<=n):∀(i:Nat) x,l[i]? = some x->x.top<=n:=by
 induction l with
 | nil=>simp
 | cons v r ih=>
  simp only[bO]at h<;>grind
theorem mS (h:∀(i:Nat) x,l[i]? = some x->x.top<=n):bO l<=n:=by
 induction l with
 | nil=>simp[bO]
 | cons v r ih=>
  simp only[bO];have h0:=h 0 v rfl;have h1:=ih (fun i x hx=>h (i+1) x bc);omega
theorem V.ik {ρ ρ':aW}(hρ:∀b,b<n->ρ' b=ρ b)(hF:∀c,dy ρ c->dy ρ' c){a:AV}{v:Value}(hv:V ρ w a v):a.top<=n->V ρ' w a v:=by
 induction hv with
 | dO v=>exact fun _=>.dO v
 | bool b=>exact fun _=>.bool b
 | int k n=>exact fun _=>.int k n
 | str s=>exact fun _=>.str s
 | fx=>exact fun _=>.fx
 | ptr o hb=>exact fun h=>.ptr o (by simp only[AV.top]at h;grind)
 | fA o c o' hb=>exact fun h=>.fA o c o' (by simp only[AV.top]at h;grind)
 | vp c o g hf hc _ ih=>exact fun h=>.vp c o g bc hc (fun i x hx=>ih i x hx (fR (by simpa only[AV.top] using h) i x hx))
 | ah=>exact fun _=>.ah
 | sl hb hl hcap hs=>exact fun h=>.sl (by simp only[AV.top]at h;grind) hl hcap hs
 | gO hb=>exact fun h=>.gO (by simp only[AV.top]at h;grind)
 | fQ c o' hb hl hcap=>exact fun h=>.fQ c o' (by simp only[AV.top]at h;grind) hl hcap
 | gw hb=>exact fun h=>.gw (by simp only[AV.top]at h;grind)
 | gP a hb=>exact fun h=>.gP a (by simp only[AV.top]at h;grind)
 | vs c o g hf hl hcap hc _ ih=>exact fun h=>.vs c o g bc hl hcap hc (fun i x hx=>ih i x hx (fR (by simpa only[AV.top] using h) i x hx))
 | fB hcap=>exact fun _=>.fB hcap
 | gA a hcap=>exact fun _=>.gA a hcap
 | ee=>exact fun _=>.ee
 | map hb=>exact fun h=>.map (by simp only[AV.top]at h;grind)
 | jb v hb=>exact fun h=>.jb v (by simp only[AV.top]at h;grind)
 | yield hb=>exact fun h=>.yield (by simp only[AV.top]at h;rw[hρ _ ac];exact hb)
 | @fn f fi ca _ _ hf h1 h2 _ _ ih1 ih2=>
  intro h;have hh:bO fi<=n/\bO ca<=n:=by
   cases f <;> simp only[AV.top]at h <;> exact⟨ac,ac⟩
  exact .fn hf h1 h2 (by grind[fR]) (by grind[fR])
 | iN v hb=>exact fun h=>.iN v (by simp only[AV.top]at h;grind)
 | fk=>exact fun _=>.fk
 | iface _ ih=>exact fun h=>.iface (ih (by simpa only[AV.top] using h))
 | eH=>exact fun _=>.eH
 | agg hl _ ih=>exact fun h=>.agg hl (fun i x y a b=>ih i x y a b (fR (by simpa only[AV.top] using h) i x a))
 | aw hl _ ih=>exact fun h=>.aw hl (fun i x y a b=>ih i x y a b (fR (by simpa only[AV.top] using h) i x a))
theorem V.cut {ρ:aW}{a:AV}(hv:V ρ w a v):a.top<=n->V (jK n ρ) w a v:=
 hv.ik (fun b hb=>by simp only[jK];grind) (fun _ h=>h.cut n)
theorem V.top {ρ:aW}(hn:∀b,n<=b->ρ b = .fresh){a:AV}{v:Value}(hv:V ρ w a v):a.top<=n:=by
 have key:∀b,ρ b≠.fresh->b+1<=n:=bc;induction hv with
 | ptr o hb=>exact key _ bc
 | fA o c o' hb=>exact key _ bc
 | vp c o g hf hc _ ih=>exact mS ih
 | sl hb _ _ _=>exact key _ bc
 | gO hb=>exact key _ bc
 | fQ c o' hb _ _=>exact key _ bc
 | gw hb=>exact key _ bc
 | gP a hb=>exact key _ bc
 | vs c o g hf hl hcap hc _ ih=>exact mS ih
 | map hb=>exact key _ bc
 | jb v hb=>exact key _ bc
 | @yield b _ _ hb=>have:=key b bc;simp only[AV.top,bO];omega
 | @fn f fi ca fi' ca' hf h1 h2 _ _ ih1 ih2=>
  have a1:bO fi<=n:=mS fun i x hx=>by
   have hi:i<fi'.length:=h1 ▸ (br.1 hx).1;exact ih1 i x fi'[i] hx (cC hi)
  have a2:bO ca<=n:=mS fun i x hx=>by
   have hi:i<ca'.length:=h2 ▸ (br.1 hx).1;exact ih2 i x ca'[i] hx (cC hi)
  cases f <;> simp only[AV.top] <;> first|omega|grind
 | @iN b v hb=>have:=key b bc;simp only[AV.top,bO];omega
 | iface _ ih=>exact ih
 | @agg l m hl _ ih=>
  exact mS fun i x hx=>by
   have hi:i<m.length:=hl ▸ (br.1 hx).1;exact ih i x m[i] hx (cC hi)
 | @aw l m hl _ ih=>
  exact mS fun i x hx=>by
   have hi:i<m.length:=hl ▸ (br.1 hx).1;exact ih i x m[i] hx (cC hi)
 | _=>simp[AV.top,bO]
end Go.Ab
namespace Go.Ab
variable {w w':World} {h:ab} {ρ:aW} {b c:Nat} {O:Obj}
variable {P:Program} {gl:Nat->Option AV}
theorem Ha {a:Addr}(h:w'.heap[a.block]? = w.heap[a.block]?):w'.frozen? a=w.frozen? a:=by
 unfold iH;rw[h]
theorem BR.mono {h':ab}{ρ':aW}(x:Ext h h' ρ ρ' w w'){b:Nat}(hρ:ρ' b=ρ b)
 (hh:∀c d,ρ b = .live c d->w'.heap[c]? = w.heap[c]?) {o:bV} (hb:BR P gl ρ w b o):BR P gl ρ' w' b o:=by
 cases o with
 | cells l e=>
  rcases hb with ⟨c,d,cs,fr,h1,h2,h3,h4,h5⟩|⟨h1,h2⟩
  . refine .inl ⟨c,d,cs,fr,hρ.trans h1,(hh c d h1).trans h2,h3,fun i hi=>?_,fun i x' y hx hy=>(h5 i x' y hx hy).mono x⟩;rw[Ha (w:=w) (hh c d h1)];grind
  . exact .inr ⟨hρ.trans h1,h2⟩
 | map es=>
  obtain⟨c,ms,clk,h1,h2,h3,h4⟩:=hb;exact⟨c,ms,clk,hρ.trans h1,(hh c 0 h1).trans h2,h3,fun i kx vx m hx hm=>let ⟨a,b⟩:=h4 i kx vx m hx hm;⟨a.mono x,b.mono x⟩⟩
 | iter s pos=>obtain⟨c,h1,h2⟩:=hb;exact⟨c,hρ.trans h1,(hh c 0 h1).trans h2⟩
 | ie=>obtain⟨c,h1,h2⟩:=hb;exact⟨c,hρ.trans h1,(hh c 0 h1).trans h2⟩
 | hole=>exact hρ.trans hb
 | loop st pend pe ps a bd=>
  obtain⟨c,r,aY,N,h1,h2,h3,h4,h5,h6⟩:=hb;exact⟨c,r,aY,N,hρ.trans h1,(hh c 0 h1).trans h2,h3,h4,h5.mono x,h6⟩
theorem BR.live {o:bV}(hb:BR P gl ρ w b o):(∃c d,ρ b = .live c d)\/ρ b = .nil\/ρ b = .fresh:=by
 cases o with
 | cells l e=>
                rcases hb with ⟨c,d,_,_,h1,_⟩|⟨h1,_⟩
                . grind
                grind
 | map es=>obtain⟨c,_,_,h1,_⟩:=hb;grind
 | iter s pos=>obtain⟨c,h1,_⟩:=hb;grind
 | ie=>obtain⟨c,h1,_⟩:=hb;grind
 | hole=>exact .inr (.inr hb)
 | loop=>obtain⟨c,_,_,_,h1,_⟩:=hb;grind
def aW.fe (ρ:aW)(b:Nat)(s:BS):aW:=⟨fun x=>if x=b then s else ρ x,ρ.X⟩
@[simp] theorem aW.ahJ (ρ:aW)(b:Nat)(s:BS):(ρ.fe b s).X=ρ.X:=rfl
@[simp] theorem aW.gQ (ρ:aW)(b:Nat)(s:BS):ρ.fe b s b=s:=by simp[aW.fe]
theorem aW.dX {x:Nat}{s:BS}(h:x≠b):ρ.fe b s x=ρ x:=by simp[aW.fe,h]
theorem Hb (hc:c<w.heap.size):(w.heap.push O)[c]? = w.heap[c]? := by
 grind
theorem Ext.alloc (m:Mem P gl ρ h w)(o:Option bV)(O:Obj)(s:BS)(hs:(∃d,s = .live w.heap.size d)\/s = .nil\/s = .dead) :
 Ext h (h++[o]) ρ (ρ.fe h.length s) w { w with heap:=w.heap.push O } where
 os:=rfl
 tape:=rfl
 output:=rfl
 size:=by simp
 len:=by simp
 X:=rfl
 dO b hb:=by
  grind
 same b hb:=by
  have hlt:=(br.1 hb).1;exact aW.dX ac
 live b c d hb:=by
  have:b≠h.length:=fun e=>by rw[m.fresh b ac]at hb;cases hb
  exact .inl ((aW.dX this).trans hb)
 dead b hb:=by
  have:b≠h.length:=fun e=>by rw[m.fresh b ac]at hb;cases hb
  exact(aW.dX this).trans hb
 nil b hb:=by
  have:b≠h.length:=fun e=>by rw[m.fresh b ac]at hb;cases hb
  exact .inl ((aW.dX this).trans hb)
 di c hc _:=Hb hc
 back b c d hb hc:=by
  by_cases e:b=h.length
  . subst e;rw[aW.gQ]at hb;grind
  . rw[aW.dX e]at hb;grind
 shape c cs e fr hc:=⟨cs,fr,bc,rfl⟩
theorem Ext.drew (h:ab)(ρ:aW)(w:World)(n:Nat):Ext h h ρ ρ w { w with drawn:=n }:=
 ⟨rfl,rfl,rfl,b9 _,b9 _,rfl,fun _ h=>h,fun _ _=>rfl,bc,fun _ h=>h,bc,ax,bc,
  bc⟩
theorem Mem.ext {ρ':aW}{h':ab}(m:Mem P gl ρ h w)(x:Ext h h' ρ ρ' w w')
 (hb:∀b o,h'[b]? = some (some o)->BR P gl ρ' w' b o) (hf:∀b,h'.length<=b->ρ' b = .fresh)
 (hi:∀b b' c d d',ρ' b = .live c d->ρ' b' = .live c d'->b=b') (hbd:∀b c d,ρ' b = .live c d->c<w'.heap.size):Mem P gl ρ' h' w':=
 ⟨hb,hf,hi,hbd,fun c hc=>fo (m.xb c (by rw[←x.X];exact hc)) x.size,fun b c d hl hX=>by
  rw[x.X]at hX;have hlt:=m.xb c hX;rcases x.back b c d hl hlt with h1|⟨b0,d0,h1,_⟩
  . exact m.xo _ _ _ h1 hX
  . exact m.xo _ _ _ h1 hX,fun g v hg=>(m.gl g v hg).mono x⟩
theorem Mem.alloc (m:Mem P gl ρ h w)(o:Option bV)(O:Obj)(s:BS)(hs:(∃d,s = .live w.heap.size d)\/s = .nil\/s = .dead)
 (ho:∀o',o=some o'->BR P gl (ρ.fe h.length s) { w with heap:=w.heap.push O } h.length o') :
 Mem P gl (ρ.fe h.length s) (h++[o]) { w with heap:=w.heap.push O }:=by
 have x:=Ext.alloc m o O s hs;refine m.ext x ?_ ?_ ?_ ?_
 . intro b o' hb;rcases i6 b h.length with hlt|heq|hgt
   . rw[f6 hlt]at hb;refine(m.dP b o' hb).mono x (aW.dX ac) (fun c d hl=>Hb (m.bound b c d hl))
   . grind
   grind
 . intro b hb;simp at hb;rw[aW.dX ac];exact m.fresh b ac
 . intro b b' c d d' h1 h2;have bd:∀{x c d},ρ x = .live c d->c<w.heap.size:=fun h=>m.bound _ _ _ h
   by_cases e:b=h.length <;> by_cases e':b'=h.length
   . omega
   . subst e;rw[aW.gQ]at h1;rw[aW.dX e']at h2;grind
   . subst e';rw[aW.gQ]at h2;rw[aW.dX e]at h1;grind
   . rw[aW.dX e]at h1;rw[aW.dX e']at h2;exact m.inj b b' c d d' h1 h2
 . intro b c d hl;show c<(w.heap.push O).size;rw[Array.size_push];by_cases e:b=h.length
   . subst e;rw[aW.gQ]at hl;grind
   . rw[aW.dX e]at hl;have:=m.bound b c d hl;omega
theorem Mem.drew (m:Mem P gl ρ h w)(n:Nat):Mem P gl ρ h { w with drawn:=n }:=
 m.ext (Ext.drew h ρ w n) (fun b o hb=>(m.dP b o hb).mono (Ext.drew h ρ w n) rfl ax) m.fresh m.inj m.bound
def _root_.Go.World.dY (w:World)(c:Nat)(O:Obj):World:={ w with heap:=w.heap.setIfInBounds c O }
theorem oh (hc:c<w.heap.size):(w.dY c O).heap[c]? = some O:=by
 simp[World.dY,hc]
theorem AB {c':Nat}(hc:c'≠c):(w.dY c O).heap[c']? = w.heap[c']? := by
 simp only[World.dY];grind
theorem mT {b':Nat}{o:Option bV}(hb:b'≠b):(h.set b o)[b']? = h[b']? := by
 grind
theorem Ext.write (_m:Mem P gl ρ h w){b c d:Nat}{o0:bV}(h0:h[b]? = some (some o0))(hρ:ρ b = .live c d)(o:Option bV)(O:Obj)
 (hO:∀cs e fr,w.heap[c]? = some (.cells cs e fr)->∃cs' fr',O = .cells cs' e fr'/\cs'.size=cs.size) :
 Ext h (h.set b o) ρ ρ w (w.dY c O) where
 os:=rfl
 tape:=rfl
 output:=rfl
 size:=by simp[World.dY]
 len:=by simp
 X:=rfl
 dO b' hb':=by
  grind
 same _ _:=rfl
 live _ _ _ h:=.inl h
 dead _ h:=h
 nil _ h:=.inl h
 di c' hc' hu:=by
  have:c'≠c:=bc;exact AB this
 back _ _ _ h _:=.inl h
 shape c' cs e fr hc':=by
  by_cases e':c'=c
  . subst e';obtain⟨cs',fr',rfl,hs⟩:=hO cs e fr hc';exact⟨cs',fr',oh bc,hs⟩
  . exact⟨cs,fr,by rw[AB e'];exact hc',rfl⟩
theorem Mem.write (m:Mem P gl ρ h w){b c d:Nat}{o0:bV}(h0:h[b]? = some (some o0))(hρ:ρ b = .live c d)(o:Option bV)(O:Obj)
 (hO:∀cs e fr,w.heap[c]? = some (.cells cs e fr)->∃cs' fr',O = .cells cs' e fr'/\cs'.size=cs.size)
 (ho:∀o',o=some o'->BR P gl ρ (w.dY c O) b o'):Mem P gl ρ (h.set b o) (w.dY c O):=by
 have x:=Ext.write m h0 hρ o O hO;refine m.ext x ?_ ?_ m.inj ?_
 . intro b' o' hb';by_cases e:b'=b
   . grind
   . rw[mT e]at hb';exact(m.dP b' o' hb').mono x rfl (fun c' d' hl=>AB (fun e'=>e (m.inj b' b c d' d (e' ▸ hl) hρ)))
 . intro b' hb';simp at hb';exact m.fresh b' hb'
 . intro b' c' d' hl;have:=m.bound b' c' d' hl;simpa[World.dY] using this
theorem Ext.forget {o0:bV}(h0:h[b]? = some (some o0))(hl:∀c d,ρ b = .live c d->c<w.heap.size) :
 Ext h (h.set b none) ρ (ρ.fe b .dead) w w where
 os:=rfl
 tape:=rfl
 output:=rfl
 size:=b9 _
 len:=by simp
 X:=rfl
 dO b' hb':=by
  grind
 same b' hb':=by
  have:b'≠b:=bc;exact aW.dX this
 live b' c d hb':=by
  by_cases e:b'=b
  . subst e;simp
  . exact .inl ((aW.dX e).trans hb')
 dead b' hb':=by
  by_cases e:b'=b
  . subst e;simp
  . exact(aW.dX e).trans hb'
 nil b' hb':=by
  by_cases e:b'=b
  . subst e;simp
  . exact .inl ((aW.dX e).trans hb')
 di _ _ _:=rfl
 back b' c d hb' _:=by
  by_cases e:b'=b
  . subst e;rw[aW.gQ]at hb';cases hb'
  . rw[aW.dX e]at hb';grind
 shape _ cs _ fr h:=⟨cs,fr,h,rfl⟩
theorem Mem.forget (m:Mem P gl ρ h w){b:Nat}{o0:bV}(h0:h[b]? = some (some o0)):Mem P gl (ρ.fe b .dead) (h.set b none) w:=by
 have x:=Ext.forget (w:=w) h0 (fun c d hl=>m.bound b c d hl);have hlt:b<h.length:=(br.1 h0).1;refine m.ext x ?_ ?_ ?_ ?_
 . intro b' o' hb';by_cases e:b'=b
   . grind
   . rw[mT e]at hb';exact(m.dP b' o' hb').mono x (aW.dX e) ax
 . intro b' hb';simp at hb';rw[aW.dX ac];exact m.fresh b' hb'
 . intro b1 b2 c d d' h1 h2;by_cases e1:b1=b
   . subst e1;rw[aW.gQ]at h1;cases h1
   . by_cases e2:b2=b
     . subst e2;rw[aW.gQ]at h2;cases h2
     . rw[aW.dX e1]at h1;rw[aW.dX e2]at h2;exact m.inj _ _ _ _ _ h1 h2
 . intro b' c d hl;by_cases e:b'=b
   . subst e;rw[aW.gQ]at hl;cases hl
   . rw[aW.dX e]at hl;exact m.bound _ _ _ hl
theorem Ext.move (m:Mem P gl ρ h w){b c d:Nat}{o0:bV}(h0:h[b]? = some (some o0))(hρ:ρ b = .live c d)(o:Option bV)(d':Nat) :
 Ext h (h.set b none++[o]) ρ ((ρ.fe b .dead).fe h.length (.live c d')) w w:=by
 have hlt:b<h.length:=(br.1 h0).1;have x:=Ext.forget (w:=w) h0 (fun c d hl=>m.bound b c d hl);have di:∀b',ρ b'≠.fresh->b'≠h.length:=fun b' hb e=>hb (m.fresh b' ac)
 refine⟨rfl,rfl,rfl,b9 _,ax,rfl,?_,?_,?_,?_,?_,ax,?_,bc⟩
 . grind
 . intro b' hb';have hlt':=(br.1 hb').1;rw[aW.dX ac];exact x.same b' hb'
 . intro b' c' d'' hb';rw[aW.dX bc];exact x.live b' c' d'' hb'
 . intro b' hb';rw[aW.dX bc];exact x.dead b' hb'
 . intro b' hb';rw[aW.dX bc];exact x.nil b' hb'
 . intro b' c' d'' hb' hc;by_cases e:b'=h.length
   . subst e;rw[aW.gQ]at hb';grind
   . rw[aW.dX e]at hb';exact x.back b' c' d'' hb' hc
theorem Mem.move (m:Mem P gl ρ h w){b c d:Nat}{o0:bV}(h0:h[b]? = some (some o0))(hρ:ρ b = .live c d)(o:Option bV)(d':Nat)
 (ho:∀o',o=some o'->BR P gl ((ρ.fe b .dead).fe h.length (.live c d')) w h.length o'):Mem P gl ((ρ.fe b .dead).fe h.length (.live c d')) (h.set b none++[o]) w:=by
 have hlt:b<h.length:=(br.1 h0).1;have x:=Ext.move m h0 hρ o d';have m':=m.forget h0;refine m.ext x ?_ ?_ ?_ ?_
 . intro b' o' hb';rcases i6 b' h.length with hl|he|hg
   . rw[f6 bc]at hb';by_cases e:b'=b
     . grind
     . rw[mT e]at hb';exact(m.dP b' o' hb').mono x (by rw[aW.dX ac,aW.dX e]) ax
   . grind
   grind
 . intro b' hb';simp at hb';rw[aW.dX ac];exact m'.fresh b' bc
 . intro b1 b2 c1 d1 d2 h1 h2;have key:∀b1 d1,b1≠h.length->(ρ.fe b .dead) b1 = .live c d1->False:=fun b1 d1 e h1=>by
    by_cases e1:b1=b
    . subst e1;rw[aW.gQ]at h1;cases h1
    . rw[aW.dX e1]at h1;exact e1 (m.inj _ _ _ _ _ h1 hρ)
   by_cases e1:b1=h.length <;> by_cases e2:b2=h.length
   . omega
   . subst e1;rw[aW.gQ]at h1;cases h1;rw[aW.dX e2]at h2;grind
   . subst e2;rw[aW.gQ]at h2;cases h2;rw[aW.dX e1]at h1;grind
   . rw[aW.dX e1]at h1;rw[aW.dX e2]at h2;exact m'.inj _ _ _ _ _ h1 h2
 . intro b' c' d'' hl;by_cases e:b'=h.length
   . subst e;rw[aW.gQ]at hl;cases hl;exact m.bound _ _ _ hρ
   . rw[aW.dX e]at hl;exact m'.bound _ _ _ hl
end Go.Ab
namespace Go.Ab
variable {v x':Value} {l:List AV} {m:List Value} {t e:TypeId} {n:Nat}
variable {P:Program} {gl:Nat->Option AV} {ρ:aW} {w:World}
theorem V.im {k:IntKind}{n:Int}(h:V ρ w (.int k n) v):v = .int k n:=by cases h;rfl
theorem V.mU {b:Bool}(h:V ρ w (.bool b) v):v = .bool b:=by cases h;rfl
theorem V.kH {s:List UInt8}(h:V ρ w (.str s) v):v = .string ⟨s.toArray⟩:=by cases h;rfl
theorem V.jL (h:V ρ w (.agg l) v):∃m:List Value,v = .agg m.toArray/\VL ρ w l m:=by
 cases h with|agg h g=>exact⟨_,rfl,h,g⟩
theorem V.Hc (h:V ρ w (.aw l) v):∃m:List Value,v = .tuple m.toArray/\VL ρ w l m:=by
 cases h with|aw h g=>exact⟨_,rfl,h,g⟩
theorem V.sr (h:VL ρ w l m):V ρ w (.agg l) (.agg m.toArray):=.agg h.1 h.2
theorem V.jm (h:VL ρ w l m):V ρ w (.aw l) (.tuple m.toArray):=.aw h.1 h.2
theorem V.undef:V ρ w cM undef:=V.jm VL.nil
theorem VL.get (h:VL ρ w l m){i:Nat}{x:AV}(hx:l[i]? = some x):∃y,m[i]? = some y/\V ρ w x y:=by
 have hi:i<m.length:=h.1 ▸ (br.1 hx).1;exact⟨m[i],cC hi,h.2 i x _ hx (cC hi)⟩
theorem AD {rec:Value->Option AV}(hr:∀v a,rec v=some a->V ρ w a v):∀(l:List Value) (r:List AV),qk rec l=some r->VL ρ w r l
 | [],r,h=>by simp[qk]at h;subst h;exact .nil
 | v::l,r,h=>by
  simp only[qk]at h;split at h
  . rename_i a r' h1 h2;cases h;exact .cons (hr v a h1) (AD hr l r' h2)
  . cases h
theorem ss:∀(n:Nat) (v:Value) (a:AV),od n v=some a->V ρ w a v
 | 0,_,_,h=>by simp[od]at h
 | n+1,v,a,h=>by
  unfold od at h;split at h
  . cases h;exact .bool _
  . cases h;exact .int _ _
  . grind[V.Az]
  . cases h;exact .fx
  . cases h;exact .ah
  . cases h;exact .ee
  . cases h;exact .fk
  . cases h;exact .eH
  . cases h;exact V.fn (fi':=[]) (ca':=[]) ax rfl rfl ax ax
  . rename_i cs;simp only[be]at h;obtain⟨l,h1,rfl⟩:=h;exact V.sr (AD (fun v a=>ss n v a) cs l h1)
  . rename_i cs;simp only[be]at h;obtain⟨l,h1,rfl⟩:=h;exact V.jm (AD (fun v a=>ss n v a) cs l h1)
  . cases h
theorem Hd {t:Nat}:∀{l:List Nat} {k i:Nat},idx t l k=some i->∃j,i=k+j/\l[j]? = some t
 | [],_,_,h=>by simp[idx]at h
 | u::r,k,i,h=>by
  simp only[idx]at h;split at h
  . simp_all
  . obtain⟨j,h1,h2⟩:=Hd h;exact⟨j+1,ac,bc⟩
theorem vw {t:Nat}{l:List Nat}{i:Nat}(h:idx t l 0=some i):l[i]? = some t:=by
 obtain⟨j,rfl,h2⟩:=Hd h;grind
theorem vy {t:Nat}:∀{l:List Nat} {k:Nat},idx t l k=none->t∉l
 | [],_,_=>by simp
 | u::r,k,h=>by
  simp only[idx]at h;split at h
  . cases h
  . rename_i hu;have:=vy h;simp;exact⟨fun e=>hu e.symm,this⟩
structure Rel (C:Cx)(ρ:aW)(s:St)(a:Act)(w:World):Prop where
 er:ER C ρ w s.pe s.lo a.tmps
 mem:Mem C.P C.gl ρ s.hp w
variable {C:Cx} {s:St} {a:Act}
theorem Qu (r:ER C ρ w s.pe s.lo a.tmps)(g:∀n v,C.gl n=some v->V ρ w v (.pointer (some ⟨n,0,none⟩))){x:Operand}{y:aZ}(hc:ij C x=some y){v:AV}(hv:s.ae y=some v) :
 V ρ w v (a.eval x):=by
 cases x with
 | tmp t=>
  simp only[ij]at hc;split at hc
  . rename_i i hi;cases hc;exact r.pe i v t hv (vw hi)
  . cases hc;exact(r.lo t v hv).2.2
 | const c=>
  simp only[ij,be]at hc;obtain⟨u,h1,rfl⟩:=hc;simp only[St.ae,ci.injEq]at hv;subst hv;exact ss 5 c _ h1
 | global n=>
  simp only[ij,be]at hc;obtain⟨u,h1,rfl⟩:=hc;simp only[St.ae,ci.injEq]at hv;subst hv;exact g n _ h1
 | func f=>
  simp only[ij]at hc;cases hc;simp only[St.ae]at hv;cases hv;exact V.fn (fi':=[]) (ca':=[]) ax rfl rfl ax ax
theorem Rel.ae (r:Rel C ρ s a w){x:Operand}{y:aZ}(hc:ij C x=some y){v:AV}(hv:s.ae y=some v):V ρ w v (a.eval x):=
 Qu r.er r.mem.gl hc hv
theorem Rel.db (r:Rel C ρ s a w):∀{xs:List Operand} {ys:List aZ},iZ C xs=some ys->∀{vs:List AV},s.db ys=some vs->VL ρ w vs (xs.map a.eval)
 | [],ys,hc,vs,hv=>by
  simp[iZ]at hc;subst hc;simp[St.db]at hv;subst hv;exact .nil
 | x::xs,ys,hc,vs,hv=>by
  simp only[iZ]at hc;split at hc
  . rename_i y l h1 h2;cases hc;simp only[St.db]at hv;split at hv
    . rename_i v hv1;split at hv
      . rename_i vs' hv2;cases hv;exact .cons (r.ae h1 hv1) (r.db h2 hv2)
      grind
    grind
  grind
theorem Qv {op:BinOp}{x y v:AV}{y':Value}(hx:V ρ w x x')(hy:V ρ w y y')(h:dS op x y=some v)(t:TypeId) :
 ∃v',(binOp op t x' y').run P w = .ok v' w/\V ρ w v v':=by
 unfold dS at h;split at h
 . rename_i k a k' b;obtain rfl:=hx.im;obtain rfl:=hy.im;split at h
   . split at h
     . cases h
     . rename_i hb;cases h;exact⟨_,by simp[binOp,Op.shift,hb] <;> rfl,.int _ _⟩
   . split at h
     . cases h
     . rename_i hb;cases h;exact⟨_,by simp[binOp,Op.shift,hb] <;> rfl,.int _ _⟩
   . rename_i op' h1 h2;split at h
     . rename_i hk;subst hk;split at h <;> first
        | (cases h;exact⟨_,by simp only[binOp];rw[if_neg ax];rfl,.int _ _⟩)
        | (cases h;exact⟨_,by simp only[binOp];rw[if_neg ax];rfl,.bool _⟩)
        | (split at h;cases h;rename_i hb;cases h;exact⟨_,by simp[binOp,Op.intDiv,hb] <;> rfl,.int _ _⟩)
        | cases h
     . cases h
 . rename_i a b;obtain rfl:=hx.kH;obtain rfl:=hy.kH;split at h
   . split at h
     . rename_i hl;cases h;refine⟨.string ⟨(a++b).toArray⟩,?_,.str _⟩;have hs:¬(((cP a.toArray).size+(cP b.toArray).size:Nat):Int) > IntKind.i64.max:=by
        have e1:(cP a.toArray).size=a.length:=by simp[de]
        have e2:(cP b.toArray).size=b.length:=by simp[de]
        rw[e1,e2];have:IntKind.i64.max=9223372036854775807:=by decide
        omega
       have e:(cP a.toArray)++(cP b.toArray)=⟨(a++b).toArray⟩:=by
        apply iI;simp
       simp only[binOp,Op.stringOp]<;>simp_all
     . cases h
   all_goals first
    | (cases h;exact⟨_,by simp[binOp,Op.stringOp] <;> rfl,.bool _⟩)
    | cases h
 . cases h
theorem Qw {op:UnOp}{x v:AV}(hx:V ρ w x x')(h:ve op x=some v):∃v',(Op.unary op x').run P w = .ok v' w/\V ρ w v v':=by
 unfold ve at h;split at h
 . obtain rfl:=hx.im;cases h;exact⟨_,by rfl,.int _ _⟩
 . obtain rfl:=hx.mU;cases h;exact⟨_,by rfl,.bool _⟩
 . obtain rfl:=hx.im;cases h;exact⟨_,by rfl,.int _ _⟩
 . cases h
theorem cE {d:TypeDesc}(h:P.underlying t=some d):(underlying t).run P w = .ok d w:=by simp[underlying,h]
theorem vz {i:TypeInfo}(h:P.info? t=some i):(typeInfo t).run P w = .ok i w:=by simp[typeInfo,h]
theorem iO {i:TypeInfo}(h:P.info? t=some i):(sizeOf t).run P w = .ok i.size w:=by simp[sizeOf,typeInfo,h]
theorem He {d:TypeDesc}(h:P.underlying t=some d):(isAgg t).run P w = .ok (Aw d) w:=by
 simp only[isAgg,bA,cE h,bj];cases d <;> rfl
theorem su {ag:Bool}(h:shapeOf P t=some (n,ag)):∃i d,P.info? t=some i/\P.underlying t=some d/\i.size=n/\Aw d=ag:=by
 unfold shapeOf at h;grind
theorem Qx (h:VL ρ w l m){off n:Nat}{r:List AV}(hc:cut l off n=some r):VL ρ w r ((m.drop off).take n)/\r.length=n:=by
 unfold cut at hc;simp only at hc;split at hc
 . rename_i hl;cases hc;exact⟨(h.drop off).take n,hl⟩
 grind
theorem Qy (m:List Value)(off n:Nat):(m.toArray.extract off (off+n))=((m.drop off).take n).toArray:=by
 simp
theorem qp {ag:Bool}(hs:shapeOf P t=some (n,ag)){l:List AV}{m:List Value}(h:VL ρ w l m){off:Nat}{v:AV}(hv:partOf l off n ag=some v) :
 ∃v',(part t m.toArray off).run P w = .ok v' w/\V ρ w v v':=by
 obtain⟨i,d,h1,h2,rfl,rfl⟩:=su hs;unfold partOf at hv;simp only[part,bA,He h2,bj];split at hv
 . rename_i hag;simp only[be]at hv;obtain⟨r,hr,rfl⟩:=hv;obtain⟨hr1,hr2⟩:=Qx h hr;rw[if_pos hag];refine⟨.agg ((m.drop off).take i.size).toArray,?_,V.sr hr1⟩;simp only[bA,iO h1,bj,Qy];rfl
 . rename_i hag;rw[if_neg hag];obtain⟨y,hy1,hy2⟩:=h.get hv<;>simp_all
theorem Qz {i:Nat}{x:List AV}(hx:V ρ w (.aw x) x'){v:AV}(h:x[i]? = some v):∃v',(Instr.extract x' i).run P w = .ok v' w/\V ρ w v v':=by
 obtain⟨m,rfl,hl⟩:=hx.Hc;obtain⟨y,hy1,hy2⟩:=hl.get h;refine⟨y,?_,hy2⟩;have:m.toArray[i]? = some y:=by simpa using hy1
 simp only[Instr.extract,this];rfl
theorem QA (hd:P.underlying t=some (.pointer e)){x y:AV}{x' y':Value}(hx:V ρ w x x')(hy:V ρ w y y'){r:Bool}
 (h:jX .ptr x y=some r):(Op.equalIn (n+1) t x' y').run P w = .ok r w:=by
 unfold jX at h;split at h
 all_goals first|contradiction|skip
 all_goals (cases h;cases hx <;> cases hy <;> simp[Op.equalIn,cE hd])
theorem QB (hd:P.underlying t=some (.slice e)){x y:AV}{x' y':Value}(hx:V ρ w x x')(hy:V ρ w y y'){r:Bool}
 (h:jX .slice x y=some r):(Op.equalIn (n+1) t x' y').run P w = .ok r w:=by
 unfold jX at h;split at h
 all_goals first|contradiction|skip
 all_goals (cases h;cases hx <;> cases hy <;> simp[Op.equalIn,cE hd])
theorem QC {k:TypeId}(hd:P.underlying t=some (.map k e)){x y:AV}{x' y':Value}(hx:V ρ w x x')(hy:V ρ w y y'){r:Bool}
 (h:jX .map x y=some r):(Op.equalIn (n+1) t x' y').run P w = .ok r w:=by
 unfold jX at h;split at h
 all_goals first|contradiction|skip
 all_goals (cases h;cases hx <;> cases hy <;> simp[Op.equalIn,cE hd])
theorem QD {ps rs:Array TypeId}{vr:Bool}(hd:P.underlying t=some (.func ps rs vr)){x y:AV}{x' y':Value}(hx:V ρ w x x')(hy:V ρ w y y'){r:Bool}
 (h:jX .func x y=some r):(Op.equalIn (n+1) t x' y').run P w = .ok r w:=by
 unfold jX at h;split at h
 all_goals first|contradiction|skip
 all_goals (cases h;cases hx <;> cases hy <;> simp[Op.equalIn,cE hd])
theorem QE {f d:Nat}(ih:∀(g:Bool) (T:TypeId) (t:iA),ja P d g T=some t->∀(x y:AV) (x' y':Value) (r:Bool),V ρ w x x'->V ρ w y y'->eZ f t x y=some r ->
 ∀n,f<=n->(Op.equalIn n T x' y').run P w = .ok r w){n:Nat}(hn:f<=n){xs ys:List AV}{xm ym:List Value}(hx:VL ρ w xs xm)(hy:VL ρ w ys ym) :
 ∀(l:List Field) (fs:List (Nat×Nat×Bool×iA)),si P (fun t=>ja P d true t) l=some fs->∀r,goEq (fun t x y=>eZ f t x y) fs xs ys=some r ->
  (Op.eqFields n xm.toArray ym.toArray l).run P w = .ok r w:=by
 intro l;induction l with
 | nil=>
  intro fs hf r h;simp[si]at hf;subst hf;simp[goEq]at h;subst h;rfl
 | cons fd l ihl=>
  intro fs hf r h;simp only[si]at hf;split at hf
  . rename_i l' hl';split at hf
    . rename_i hname;cases hf;simp only[Op.eqFields]<;>grind
    . rename_i hname;split at hf
      . rename_i k ag e hs he;cases hf;simp only[goEq]at h;split at h
        . rename_i a b ha hb;obtain⟨a',ha1,ha2⟩:=qp hs hx ha;obtain⟨b',hb1,hb2⟩:=qp hs hy hb;simp only[Op.eqFields];rw[if_pos bc];simp only[bA,ha1,hb1,bj];split at h
          . rename_i hr;rw[ih true fd.type e he a b a' b' true ha2 hb2 hr n hn];simp only[bj,eA,ce,if_false]<;>grind
          . rename_i hr;cases h;rw[ih true fd.type e he a b a' b' false ha2 hb2 hr n hn];simp
          . cases h
        . cases h
      grind
  grind
theorem QF {f d:Nat}(ih:∀(g:Bool) (T:TypeId) (t:iA),ja P d g T=some t->∀(x y:AV) (x' y':Value) (r:Bool),V ρ w x x'->V ρ w y y'->eZ f t x y=some r ->
 ∀n,f<=n->(Op.equalIn n T x' y').run P w = .ok r w){n:Nat}(hn:f<=n){xs ys:List AV}{xm ym:List Value}(hx:VL ρ w xs xm)(hy:VL ρ w ys ym)
 {e:TypeId} {k:Nat} {ag:Bool} {q:iA} (hs:shapeOf P e=some (k,ag)) (hc:P.cellsOf e=k) (he:ja P d true e=some q) :
 ∀(m i:Nat) r,goEq (fun t x y=>eZ f t x y) (sm k ag q m i) xs ys=some r ->
  (Op.eqItems n e (P.cellsOf e) xm.toArray ym.toArray (f7 i m)).run P w = .ok r w:=by
 intro m;induction m with
 | zero=>
  intro i r h;simp[sm,goEq]at h;subst h;rfl
 | succ m ihm=>
  intro i r h;simp only[sm,goEq]at h;rw[i8];split at h
  . rename_i a b ha hb;obtain⟨a',ha1,ha2⟩:=qp hs hx ha;obtain⟨b',hb1,hb2⟩:=qp hs hy hb;simp only[Op.eqItems,hc];simp only[bA,ha1,hb1,bj];split at h
    . rename_i hr;rw[ih true e q he a b a' b' true ha2 hb2 hr n hn];simp only[bj,eA,ce,if_false]<;>grind
    . rename_i hr;cases h;rw[ih true e q he a b a' b' false ha2 hb2 hr n hn];simp
    . cases h
  . cases h
theorem QG:∀(f d:Nat) (g:Bool) (T:TypeId) (t:iA),ja P d g T=some t->∀(x y:AV) (x' y':Value) (r:Bool),V ρ w x x'->V ρ w y y'->eZ f t x y=some r ->
 ∀n,f<=n->(Op.equalIn n T x' y').run P w = .ok r w:=by
 intro f;induction f with
 | zero=>intro d g T t _ x y x' y' r _ _ h;simp[eZ]at h
 | succ f ih=>
  intro d g T t ht x y x' y' r hx hy h n hn;obtain⟨n,rfl⟩:∃m,n=m+1:=⟨n-1,ac⟩;cases d with
  | zero=>simp[ja]at ht
  | succ d=>
   simp only[ja]at ht;cases hu:P.underlying T with
   | none=>grind
   | some u=>
    simp only[hu]at ht;cases u <;> simp only[ci.injEq,reduceCtorEq]at ht
    case bool=>
     subst ht;simp only[eZ]at h;split at h <;> simp_all
     obtain rfl:=hx.mU;obtain rfl:=hy.mU;simp[Op.equalIn,cE hu,h]
    case int k=>
     subst ht;simp only[eZ]at h;split at h <;> simp_all
     obtain rfl:=hx.im;obtain rfl:=hy.im;obtain⟨rfl,h⟩:=h;simp[Op.equalIn,cE hu,h]
    case string=>
     subst ht;simp only[eZ]at h;split at h <;> simp_all
     obtain rfl:=hx.kH;obtain rfl:=hy.kH;rw[run_equalIn_string w n T _ _ hu];simp[h]
    case pointer e=>subst ht;exact QA hu hx hy (by simpa[eZ] using h)
    case slice e=>subst ht;exact QB hu hx hy (by simpa[eZ] using h)
    case map k e=>subst ht;exact QC hu hx hy (by simpa[eZ] using h)
    case func ps rs vr=>subst ht;exact QD hu hx hy (by simpa[eZ] using h)
    case interface ms=>
     subst ht;simp only[eZ]at h;generalize hg:(g && !ms.isEmpty)=g' at h;clear hg;split at h
     all_goals first|(rename_i heq;cases heq;done)|(rename_i heq _ _;cases heq;done)|skip
     all_goals first|(simp at h;done)|skip
     all_goals (cases hx;cases hy;first|(split at h;(cases h);(cases h;simp[Op.equalIn,cE hu]))|(cases h;simp[Op.equalIn,cE hu]))
    case struct fs=>
     split at ht
     . cases ht
     . rename_i hst;simp only[be]at ht;obtain⟨l,hl,rfl⟩:=ht;simp only[eZ]at h;split at h <;> try (simp_all;done)
       rename_i fs' xs ys heq;cases heq;obtain⟨xm,rfl,hxm⟩:=hx.jL;obtain⟨ym,rfl,hym⟩:=hy.jL;have hfo:P.fieldsOf T=fs:=by simp[Program.fieldsOf,hu]
       grind[run_equalIn_struct,QE]
    case array m e=>
     split at ht
     . rename_i k ag q hs hq;cases ht;simp only[eZ]at h;split at h <;> try (simp_all;done)
       rename_i fs' xs ys heq;cases heq;obtain⟨xm,rfl,hxm⟩:=hx.jL;obtain⟨ym,rfl,hym⟩:=hy.jL;obtain⟨i,dd,hi,_,hk,_⟩:=su hs;have hc:P.cellsOf e=k:=by simp[Program.cellsOf,hi,hk]
       rw[run_equalIn_array w n _ _ hu hi,List.range_eq_range'];grind[QF]
     grind
end Go.Ab
namespace Go.Ab
variable {l o n len esz dflt most r capC:Nat} {f:Field} {i:TypeInfo} {t e:TypeId} {cap:Option Nat} {x:Option AV} {a:Option Addr}
variable {P:Program} {gl:Nat->Option AV} {ρ:aW} {w:World}
theorem QH {src dst:TypeId}{k k':IntKind}(hs:P.underlying src=some (.int k'))(hd:P.underlying dst=some (.int k)){x v:AV}{x':Value}(hx:V ρ w x x')
 (h:nZ k x=some v):∃v',(convert src dst x').run P w = .ok v' w/\V ρ w v v':=by
 unfold nZ at h;split at h
 . cases h;obtain rfl:=hx.im;exact⟨_,by simp[convert,cE hs,cE hd,Conv.intToInt] <;> rfl,.int _ _⟩
 . cases h
theorem QI {x v:AV}{x':Value}(hx:V ρ w x x')(h:Av x=some v)(t:TypeId)(pos:String)(dst:Option Tmp)(af:Array Edge)(g:Option (Nat×Bool))(e:Operand->Value)(X:Operand)(hX:e X=x') :
 ∃v',(execOp e ⟨dst,.nilCheck X,t,pos,af,g⟩).run P w = .ok (.value v') w/\V ρ w v v':=by
 unfold Av at h;simp only[execOp,hX];split at h <;> cases h
 . cases hx with
   | ptr _ hb=>exact⟨_,rfl,.ptr _ hb⟩
   | fA _ _ _ hb=>exact⟨_,rfl,.fA _ _ _ hb⟩
 . cases hx with
   | vp c o g hf hc hg=>exact⟨_,rfl,.vp c o g hf hc hg⟩
 . cases hx with
   | fn hf h1 h2 g1 g2=>exact⟨_,rfl,.fn hf h1 h2 g1 g2⟩
 . cases hx with
   | yield hb=>exact⟨_,rfl,.yield hb⟩
   | fn hf h1 h2 g1 g2=>grind
   | iN c hb=>exact⟨_,rfl,.iN c hb⟩
theorem Addr.iP (c o n:Nat):(⟨c,o,none⟩:Addr).add n=⟨c,o+n,none⟩:=by
 unfold Addr.add;simp
theorem AE {l:List AV}{c:Nat}(h:V ρ w (.vp l) (.pointer (some ⟨c,o,none⟩)))(n:Nat):V ρ w (.vp (l.drop n)) (.pointer (some ⟨c,o+n,none⟩)):=by
 cases h with
 | vp c o g hf hc hg=>
  refine .vp c (o+n) (fun i=>g (n+i)) bc (fun i hi=>?_) (fun i x hx=>?_)
  . grind
  grind
theorem Hf {l:List AV}{v:Value}(h:V ρ w (.vp l) v):∃c o,v = .pointer (some ⟨c,o,none⟩):=by
 cases h<;>grind
theorem QJ {a:Addr}(hi:P.info? f.type=some i)(h0:i.size≠0):(fieldPlace a f).run P w = .ok (a.add f.offset) w:=by
 simp[fieldPlace,iO hi,h0]
theorem QK {fs:Array Field}(hu:P.underlying t=some (.struct fs))(hf:fs[n]? = some f)(hi:P.info? f.type=some i)(h0:i.size≠0)
 {x v:AV} {x':Value} (hx:V ρ w x x') (h:Au f.offset x=some v):∃v',(Instr.fieldAt t x' n).run P w = .ok v' w/\V ρ w v v':=by
 have key:∀a,x' = .pointer (some a)->(Instr.fieldAt t x' n).run P w = .ok (.pointer (some (a.add f.offset))) w:=by
  rintro a rfl;simp[Instr.fieldAt,cE hu,hf,Instr.sureAddr,QJ hi h0]
 unfold Au at h;split at h <;> cases h
 . cases hx with
   | ptr _ hb=>
    refine⟨_,key _ rfl,?_⟩;rw[Addr.iP,d6];exact .ptr _ hb
   | fA _ _ _ hb=>exact⟨_,key _ rfl,by rw[Addr.iP];exact .fA _ _ _ hb⟩
 . obtain⟨c,o,rfl⟩:=Hf hx;refine⟨_,key _ rfl,?_⟩;grind[Addr.iP,AE]
theorem qq (k:IntKind)(n:Int):(asIntOf (.int k n)).run P w = .ok (k,n) w:=rfl
theorem QL {l:List AV}{v:Value}(h:V ρ w (.vs l len cap) v)(hn:0<len):∃c o capC,v = .slice (some ⟨c,o,none⟩) len capC/\V ρ w (.vp l) (.pointer (some ⟨c,o,none⟩)):=by
 cases h with
 | vs c o g hf hl hcap hc hg=>exact⟨c,o,_,rfl,.vp c o g hf hc hg⟩
 | fB hcap=>omega
 | gA a hcap=>omega
theorem AF (hu:P.underlying t=some (.slice e))(hi:P.info? e=some i){k:IntKind}{n:Int}{a:Addr}{len capC:Nat}(h0:0<=n)(h1:n<len) :
 (Instr.indexAt t (.slice (some a) len capC) (.int k n)).run P w = .ok (.pointer (some (a.add (n.toNat*i.size)))) w:=by
 simp[Instr.indexAt,qq,cE hu,iO hi,h0,h1]
theorem AG (hu:P.underlying t=some (.array len e))(hi:P.info? e=some i){k:IntKind}{n:Int}{a:Addr}(h0:0<=n)(h1:n<len) :
 (Instr.indexAt t (.pointer (some a)) (.int k n)).run P w = .ok (.pointer (some (a.add (n.toNat*i.size)))) w:=by
 simp[Instr.indexAt,qq,cE hu,iO hi,h0,h1,Instr.sureAddr]
theorem Hg {arr:Option Nat}(hu:P.underlying t=some (match arr with|some len=>.array len e|none=>.slice e))(hi:P.info? e=some i)
 {x y v:AV} {x' y':Value} (hx:V ρ w x x') (hy:V ρ w y y') (h:qf arr i.size x y=some v):∃v',(Instr.indexAt t x' y').run P w = .ok v' w/\V ρ w v v':=by
 unfold qf at h;split at h
 . rename_i k n;obtain rfl:=hy.im;split at h
   . split at h
     . rename_i hb;cases h;cases hx with
       | ptr _ hr=>
        refine⟨_,AG hu hi hb.1 hb.2,?_⟩;rw[Addr.iP,d6];exact .ptr _ hr
       | fA _ _ _ hr=>exact⟨_,AG hu hi hb.1 hb.2,by rw[Addr.iP];exact .fA _ _ _ hr⟩
     . cases h
   . split at h
     . rename_i hb;cases h;obtain⟨c,o,rfl⟩:=Hf hx;refine⟨_,AG hu hi hb.1 hb.2,?_⟩;grind[Addr.iP,AE]
     . cases h
   . split at h
     . rename_i hb;cases h;obtain⟨h0,h1,rfl⟩:=hb;cases hx with
       | sl hr hl hcap hs=>
        refine⟨_,AF hu hi h0 h1,?_⟩;rw[Addr.iP,d6];exact .ptr _ hr
       | gO hr=>omega
       | fQ _ _ hr hl hcap=>exact⟨_,AF hu hi h0 h1,by rw[Addr.iP];exact .fA _ _ _ hr⟩
       | gw hr=>omega
       | gP a hr=>omega
     . cases h
   . split at h
     . rename_i hb;cases h;obtain⟨h0,h1⟩:=hb;obtain⟨c,o,capC,rfl,hv⟩:=QL hx ac;refine⟨_,AF hu hi h0 h1,?_⟩;grind[Addr.iP,AE]
     . cases h
   . cases h
 . cases h
theorem QM (hu:P.underlying t=some .string){x y v:AV}{x' y':Value}(hx:V ρ w x x')(hy:V ρ w y y')(h:vh x y=some v) :
 ∃v',(Instr.index t x' y').run P w = .ok v' w/\V ρ w v v':=by
 unfold vh at h;split at h
 . rename_i s k n;obtain rfl:=hx.kH;obtain rfl:=hy.im;split at h
   . rename_i h0;simp only[be]at h;obtain⟨c,hc,rfl⟩:=h;refine⟨.int .u8 c.toNat,?_,.int _ _⟩;have e:(cP s.toArray)[n.toNat]? = some c:=by
      have hlt:=(br.1 hc).1;have:n.toNat<(cP s.toArray).size:=by simpa[de] using hlt
      rw[getElem?_pos (cP s.toArray) n.toNat this];have h2:=(br.1 hc).2;congr 1
     simp[Instr.index,qq,cE hu,h0,e]
   . cases h
 . cases h
theorem QN {ag:Bool}(hu:P.underlying t=some (.array len e))(hs:shapeOf P e=some (esz,ag)){l:List AV}{x':Value}(hx:V ρ w (.agg l) x')
 {k:IntKind} {n:Int} (h0:0<=n) (h1:n<len) {v:AV} (h:partOf l (n.toNat*esz) esz ag=some v):∃v',(Instr.index t x' (.int k n)).run P w = .ok v' w/\V ρ w v v':=by
 obtain⟨m,rfl,hm⟩:=hx.jL;obtain⟨i,d,hi,hd,rfl,rfl⟩:=su hs;obtain⟨v',h2,h3⟩:=qp hs hm h;refine⟨v',?_,h3⟩;simp[Instr.index,qq,cE hu,iO hi,h0,h1,h2]
theorem QO {fs:Array Field}{sz:Nat}{ag:Bool}(hu:P.underlying t=some (.struct fs))(hf:fs[n]? = some f)(hs:shapeOf P f.type=some (sz,ag))
 {l:List AV} {x':Value} (hx:V ρ w (.agg l) x') {v:AV} (h:partOf l f.offset sz ag=some v):∃v',(Instr.field t x' n).run P w = .ok v' w/\V ρ w v v':=by
 obtain⟨m,rfl,hm⟩:=hx.jL;obtain⟨v',h2,h3⟩:=qp hs hm h;refine⟨v',?_,h3⟩;simp[Instr.field,cE hu,hf,asAgg,h2]
theorem mV {a:AV}{b:Value}(hx:V ρ w a b){dflt most r:Nat}(h:cH (some a) dflt most=some r) :
 (∀code,(Instr.sliceBound b most code).run P w = .ok r w)/\r<=most:=by
 unfold cH at h;split at h
 . grind
 . rename_i k n heq;cases heq;split at h
   . rename_i hb;cases h;obtain rfl:=hx.im;exact⟨fun code=>by simp[Instr.sliceBound,qq,hb.1,hb.2],ac⟩
   . cases h
 . cases h
theorem sv (h:cH none dflt most=some r):r=dflt:=by
 simp[cH]at h;omega
def VO (ρ:aW)(w:World):Option AV->Option Value->Prop
 | none,none=>True
 | some a,some b=>V ρ w a b
 | _,_=>False
theorem AH {isS:Bool}{cap:Nat}{lo hi mx:Option AV}{lo' hi' mx':Option Value}(hl:VO ρ w lo lo')(hh:VO ρ w hi hi')(hm:VO ρ w mx mx')
 {m h l:Nat} (h1:cH mx cap cap=some m) (h2:cH hi len m=some h) (h3:cH lo 0 h=some l) (hmh:mx=none\/hi≠none) :
 (Instr.sliceBounds isS len cap lo' hi' mx').run P w = .ok (l,h,m) w:=by
 unfold Instr.sliceBounds;cases mx with
 | none=>
  cases mx' with
  | some _=>exact hm.elim
  | none=>
   obtain rfl:=sv h1;cases hi with
   | none=>
    cases hi' with
    | some _=>exact hh.elim
    | none=>
     obtain rfl:=sv h2;cases lo with
     | none=>
      cases lo' with
      | some _=>exact hl.elim
      | none=>obtain rfl:=sv h3;simp
     | some a=>
      cases lo' with
      | none=>exact hl.elim
      | some b=>simp[(mV (P:=P) hl h3).1]
   | some c=>
    cases hi' with
    | none=>exact hh.elim
    | some d=>
     have e2:=(mV (P:=P) hh h2).1;cases lo with
     | none=>
      cases lo' with
      | some _=>exact hl.elim
      | none=>obtain rfl:=sv h3;simp[e2]
     | some a=>
      cases lo' with
      | none=>exact hl.elim
      | some b=>simp[e2,(mV (P:=P) hl h3).1]
 | some x=>
  cases mx' with
  | none=>exact hm.elim
  | some y=>
   have e1:=(mV (P:=P) hm h1).1;cases hi with
   | none=>grind
   | some c=>
    cases hi' with
    | none=>exact hh.elim
    | some d=>
     have e2:=(mV (P:=P) hh h2).1;cases lo with
     | none=>
      cases lo' with
      | some _=>exact hl.elim
      | none=>obtain rfl:=sv h3;simp[e1,e2]
     | some a=>
      cases lo' with
      | none=>exact hl.elim
      | some b=>simp[e1,e2,(mV (P:=P) hl h3).1]
theorem AI (h:cH x dflt most=some r):r<=max dflt most:=by
 unfold cH at h;grind
theorem mz (hd:dflt<=most)(h:cH x dflt most=some r):r<=most:=by
 have:=AI h;omega
theorem vB {most':Nat}(hm:most<=most')(h:cH x dflt most=some r):cH x dflt most'=some r:=by
 unfold cH at *
 grind
theorem QP (s:List UInt8)(l h:Nat):(cP s.toArray).extract l h=⟨((s.drop l).take (h-l)).toArray⟩:=by
 apply iI;simp
theorem QQ {b h:Nat}(hx:V ρ w (.sl b o len esz cap) (.slice a len capC))(hlh:l<h)(hhc:h<=capC)(m:Nat)(hm:m<=capC)(hhm:h<=m)(cap':Option Nat)
 (hc':∀n,cap'=some n->m-l=n):V ρ w (.sl b (o+l*esz) (h-l) esz cap') (.slice (if m=l then a else a.map (·.add (l*esz))) (h-l) (m-l)):=by
 have hne:m≠l:=by omega
 rw[if_neg hne];cases hx with
 | sl hr hl hcap hs=>
  obtain⟨cs,e,fr,h1,h2⟩:=hs;simp only[eL];rw[Addr.iP,d6];refine .sl hr ac hc' ⟨cs,e,fr,h1,?_⟩;have e1:l*esz+(m-l)*esz=m*esz:=by rw[←ii];congr 1;omega
  have e2:m*esz<=capC*esz:=cT _ hm;omega
 | gO hr=>omega
 | fQ _ _ hr hl hcap=>simp only[eL];rw[Addr.iP];exact .fQ _ _ hr ac hc'
 | gw hr=>omega
 | gP a hr=>omega
theorem QR {c:List AV}{h:Nat}(hx:V ρ w (.vs c len cap) (.slice a len capC))(hlh:l<=h)(m:Nat)(hhm:h<=m)(cap':Option Nat)
 (hc':∀n,cap'=some n->m-l=n) (hm:m<=capC):V ρ w (.vs ((c.drop (l*esz)).take ((h-l)*esz)) (h-l) cap') (.slice (if m=l then a else a.map (·.add (l*esz))) (h-l) (m-l)):=by
 cases hx with
 | vs c' o g hf hl hcap hcc hg=>
  by_cases hne:m=l
  . rw[if_pos hne];have e1:h-l=0:=by omega
    rw[e1];simp only[g9,List.take_zero];exact .vs c' o g ax ac hc' ax ax
  . rw[if_neg hne];simp only[eL];rw[Addr.iP];refine .vs c' (o+l*esz) (fun i=>g (l*esz+i)) bc ac hc' (fun i hi=>?_) (fun i x hx=>?_)
    . grind
    grind
 | fB hcap=>
  have:m=0:=by omega
  subst this;have:l=0:=by omega
  subst this;have:h=0:=by omega
  subst this;simp;exact .fB bc
 | gA a hcap=>
  have:m=0:=by omega
  subst this;have:l=0:=by omega
  subst this;have:h=0:=by omega
  subst this;simp;exact .gA a bc
theorem V.empty {c:Nat}(ha:a=none->c=0)(hs:∀x,a=some x->x.spot=none\/c=0)(hc:∀n,cap=some n->c=n):V ρ w (.vs [] 0 cap) (.slice a 0 c):=by
 cases a with
 | none=>obtain rfl:=ha rfl;exact .fB bc
 | some x=>
  obtain⟨b,o,sp⟩:=x;rcases hs _ rfl with h|rfl
  . obtain rfl:sp=none:=h;exact .vs b o (fun _=>Go.undef) ax (gc _) hc ax ax
  . exact .gA _ bc
theorem QS (hu:P.underlying t=some .string){s:List UInt8}{lo hi:Option AV}{lo' hi':Option Value}(hl:VO ρ w lo lo')(hh:VO ρ w hi hi')
 {h l:Nat} (h2:cH hi s.length s.length=some h) (h3:cH lo 0 h=some l) :
 (Instr.sliceAt t (.string ⟨s.toArray⟩) lo' hi' none).run P w = .ok (.string ⟨((s.drop l).take (h-l)).toArray⟩) w:=by
 have e:(cP s.toArray).size=s.length:=by simp[de]
 have b:=AH (P:=P) (isS:=false) (len:=s.length) (cap:=s.length) hl hh (show VO ρ w none none from trivial) (m:=s.length) (by rfl) h2 h3 (.inl rfl);simp only[Instr.sliceAt,Instr.slice,bA,cE hu,bj];simp[e,b,QP]
theorem AJ (hu:P.underlying t=some (.slice e))(hi:P.info? e=some i){a:Option Addr}{len capC:Nat}{lo hi' mx:Option AV}{lo' hi'' mx':Option Value}
 (hl:VO ρ w lo lo') (hh:VO ρ w hi' hi'') (hm:VO ρ w mx mx') {h l m:Nat} (h1:cH mx capC capC=some m) (h2:cH hi' len m=some h) (h3:cH lo 0 h=some l) (hmh:mx=none\/hi'≠none) :
 (Instr.sliceAt t (.slice a len capC) lo' hi'' mx').run P w = .ok (.slice (if m=l then a else a.map (·.add (l*i.size))) (h-l) (m-l)) w:=by
 have b:=AH (P:=P) (isS:=true) hl hh hm h1 h2 h3 hmh;simp only[Instr.sliceAt,Instr.slice,bA,cE hu,bj];simp[b,iO hi]
theorem QT (hu:P.underlying t=some (.array n e))(hi:P.info? e=some i){a:Addr}{lo hi':Option AV}{lo' hi'':Option Value}
 (hl:VO ρ w lo lo') (hh:VO ρ w hi' hi'') {h l:Nat} (h2:cH hi' n n=some h) (h3:cH lo 0 h=some l) :
 (Instr.sliceAt t (.pointer (some a)) lo' hi'' none).run P w = .ok (.slice (some (if n=l then a else a.add (l*i.size))) (h-l) (n-l)) w:=by
 have b:=AH (P:=P) (isS:=false) (len:=n) (cap:=n) hl hh (show VO ρ w none none from trivial) (m:=n) (by rfl) h2 h3 (.inl rfl);simp only[Instr.sliceAt,bA,cE hu,bj];simp[b,iO hi,Instr.sureAddr]
theorem QU {m:Nat}(hm:m<=capC)(ha:∀x,a=some x->x.spot=none\/capC=0)(n:Nat)(c:Prop)[Decidable c]:∀x,(if c then a else a.map (·.add n))=some x->x.spot=none\/m-l=0:=by
 intro x hx;split at hx
 . grind
 . simp only[be]at hx;obtain⟨y,hy,rfl⟩:=hx;rcases ha y hy with this|h
   . refine .inl ?_;unfold Addr.add;grind
   omega
theorem lF {x:AV}{x':Value}(hx:V ρ w x x')(hk:match x with | .ah | .sl .. | .vs .. => True|_=>False) :
 ∃a len capC,x' = .slice a len capC/\len<=capC/\(∀y,a=some y->y.spot=none\/capC=0)/\(a=none->capC=0):=by
 cases hx <;> simp at hk<;>grind
theorem sw {b len':Nat}(hx:V ρ w (.sl b o len esz cap) (.slice a len' capC)):len'=len/\∀n,cap=some n->capC=n:=by
 cases hx<;>grind
theorem sx {c:List AV}{len':Nat}(hx:V ρ w (.vs c len cap) (.slice a len' capC)):len'=len/\∀n,cap=some n->capC=n:=by
 cases hx<;>grind
theorem QV (hl:len<=capC)(hc:∀n,cap=some n->capC=n):cap.getD len<=capC:=by
 cases cap<;>grind
theorem Hh (hc:∀n,cap=some n->capC=n):∀n,cap.map (· - l)=some n->capC-l=n:=by
 simp_all
theorem Hi (hu:P.underlying t=some (.slice e))(hi:P.info? e=some i){b o len:Nat}{cap:Option Nat}{a:Option Addr}{len' capC:Nat}(hx:V ρ w (.sl b o len i.size cap) (.slice a len' capC))
 {lo hi' mx:Option AV} {lo' hi'' mx':Option Value} (hl:VO ρ w lo lo') (hh:VO ρ w hi' hi'') (hm:VO ρ w mx mx') {h l m:Nat}
 (h1:cH mx capC capC=some m) (h2:cH hi' len m=some h) (h3:cH lo 0 h=some l) (hmh:mx=none\/hi'≠none) (hhm:h<=m) (hmc:m<=capC) (cap':Option Nat) (hc':∀n,cap'=some n->m-l=n) :
 ∃v',(Instr.sliceAt t (.slice a len' capC) lo' hi'' mx').run P w = .ok v' w/\V ρ w (if l<h then .sl b (o+l*i.size) (h-l) i.size cap' else .vs [] 0 cap') v':=by
 obtain⟨_,_,_,he,hlc,hsp,hnil⟩:=lF hx trivial;cases he;obtain⟨rfl,hcap⟩:=sw hx;refine⟨_,AJ (P:=P) hu hi hl hh hm h1 h2 h3 hmh,?_⟩;have hlh:=mz (gc _) h3;split
 . grind[QQ]
 . rename_i hlt;have e0:h-l=0:=by omega
   rw[e0];refine V.empty (fun e=>?_) (QU hmc hsp _ _) hc';grind[Option.map_eq_none_iff]
theorem Hj (hu:P.underlying t=some (.slice e))(hi:P.info? e=some i){l0:List AV}{len:Nat}{cap:Option Nat}{a:Option Addr}{len' capC:Nat}(hx:V ρ w (.vs l0 len cap) (.slice a len' capC))
 {lo hi' mx:Option AV} {lo' hi'' mx':Option Value} (hl:VO ρ w lo lo') (hh:VO ρ w hi' hi'') (hm:VO ρ w mx mx') {h l m:Nat}
 (h1:cH mx capC capC=some m) (h2:cH hi' len m=some h) (h3:cH lo 0 h=some l) (hmh:mx=none\/hi'≠none) (hhm:h<=m) (hmc:m<=capC) (cap':Option Nat) (hc':∀n,cap'=some n->m-l=n) :
 ∃v',(Instr.sliceAt t (.slice a len' capC) lo' hi'' mx').run P w = .ok v' w/\V ρ w (.vs ((l0.drop (l*i.size)).take ((h-l)*i.size)) (h-l) cap') v':=by
 obtain⟨_,_,_,he,hlc,hsp,hnil⟩:=lF hx trivial;cases he;obtain⟨rfl,hcap⟩:=sx hx;exact⟨_,AJ (P:=P) hu hi hl hh hm h1 h2 h3 hmh,QR hx (mz (gc _) h3) m hhm _ hc' hmc⟩
theorem Hk (hu:P.underlying t=some (.slice e))(hi:P.info? e=some i){x':Value}(hx:V ρ w .ah x')
 {lo hi' mx:Option AV} {lo' hi'' mx':Option Value} (hl:VO ρ w lo lo') (hh:VO ρ w hi' hi'') (hm:VO ρ w mx mx') {h l m:Nat}
 (h1:cH mx 0 0=some m) (h2:cH hi' 0 0=some h) (h3:cH lo 0 0=some l) (hmh:mx=none\/hi'≠none) :
 ∃v',(Instr.sliceAt t x' lo' hi'' mx').run P w = .ok v' w/\V ρ w .ah v':=by
 cases hx;have e0:=mz (b9 _) h1;obtain rfl:m=0:=by omega
 have e1:=mz (b9 _) h2;obtain rfl:h=0:=by omega
 have e2:=mz (b9 _) h3;obtain rfl:l=0:=by omega
 exact⟨_,AJ (P:=P) (a:=none) hu hi hl hh hm h1 h2 h3 hmh,by simpa using V.ah⟩
theorem Hl {d d':Nat}(hx:x≠none)(h:cH x d most=some r):cH x d' most=some r:=by
 cases x with
 | none=>grind
 | some a=>cases a <;> exact h
theorem Hm {k:mP} 
 (hk:match k with | .str=>P.underlying t=some .string | .sl=>∃e i,P.underlying t=some (.slice e)/\P.info? e=some i/\i.size=esz | .arr n=>∃e i,P.underlying t=some (.array n e)/\P.info? e=some i/\i.size=esz)
 {x v:AV} {x':Value} (hx:V ρ w x x') {lo hi mx:Option AV} {lo' hi' mx':Option Value} (hl:VO ρ w lo lo') (hh:VO ρ w hi hi') (hm:VO ρ w mx mx') (hmh:mx=none\/hi≠none)
 (h:kD k esz x lo hi mx=some v):∃v',(Instr.sliceAt t x' lo' hi' mx').run P w = .ok v' w/\V ρ w v v':=by
 cases k with
 | str=>
  cases x <;> cases mx <;> simp only[kD,reduceCtorEq]at h;cases mx' with
  | some _=>exact hm.elim
  | none=>
   obtain rfl:=hx.kH;split at h
   . rename_i hb;split at h
     . rename_i lb;cases h;exact⟨_,QS hk hl hh hb lb,.str _⟩
     . cases h
   . cases h
 | sl=>
  obtain⟨e,i,hu,hinf,rfl⟩:=hk;cases x <;> simp only[kD,reduceCtorEq]at h
  case ah=>
   cases mx with
   | none=>
    simp only at h;split at h
    . rename_i hb lb;cases h;exact Hk hu hinf hx hl hh hm (m:=0) (by rfl) hb lb hmh
    . cases h
   | some m0=>
    simp only at h;split at h
    . rename_i mb hb lb;cases h;exact Hk hu hinf hx hl hh hm mb hb lb hmh
    . cases h
  case sl b o len e' cap=>
   obtain⟨a,len',capC,rfl,hlc,hsp,hnil⟩:=lF hx trivial;obtain⟨rfl,hcap⟩:=sw hx;have hcc:=QV hlc hcap;cases mx with
   | none=>
    simp only at h;split at h
    . rename_i he;subst he;split at h
      . rename_i h' hb;split at h
        . rename_i l' lb;have hhc:h'<=capC:=by
           have h1:=AI hb;have h2:=Nat.max_le.2 ⟨hlc,hcc⟩;omega
          have:=Hi (P:=P) hu hinf hx hl hh hm (m:=capC) (by simp[cH]) (vB hcc hb) lb hmh hhc (b9 _) (cap.map (· - l')) (Hh hcap)<;>grind
        . cases h
      . cases h
    . cases h
   | some m0=>
    simp only at h;split at h
    . rename_i he;subst he;split at h
      . rename_i m' mb;split at h
        . rename_i h' hb;split at h
          . rename_i l' lb;have hmc:m'<=capC:=by
             have h1:=AI mb;have h2:=Nat.max_le.2 ⟨hlc,hcc⟩;omega
            have hhi:hi≠none:=by rcases hmh with h|h;cases h;exact h
            have hhm:h'<=m':=by
             cases hi with
             | none=>grind
             | some c=>
              cases hi' with
              | none=>exact hh.elim
              | some d=>exact(mV (P:=P) hh hb).2
            have:=Hi (P:=P) hu hinf hx hl hh hm (by grind[Hl,vB]) hb lb hmh hhm hmc (some (m'-l')) ax;grind
          . cases h
        . cases h
      . cases h
    . cases h
  case vs l0 len cap=>
   obtain⟨a,len',capC,rfl,hlc,hsp,hnil⟩:=lF hx trivial;obtain⟨rfl,hcap⟩:=sx hx;cases mx with
   | none=>
    simp only at h;split at h
    . rename_i h' hb;split at h
      . rename_i l' lb;cases h;have hhc:h'<=len':=mz (b9 _) hb;exact Hj (P:=P) hu hinf hx hl hh hm (m:=capC) (by rfl) (vB hlc hb) lb hmh ac (b9 _) (cap.map (· - l')) (Hh hcap)
      . cases h
    . cases h
   | some m0=>
    simp only at h;split at h
    . rename_i m' mb;split at h
      . rename_i h' hb;split at h
        . rename_i l' lb;cases h;have hmc:m'<=len':=mz (b9 _) mb;have hhi:hi≠none:=by rcases hmh with h|h;cases h;exact h
          have hhm:h'<=m':=by
           cases hi with
           | none=>grind
           | some c=>
            cases hi' with
            | none=>exact hh.elim
            | some d=>exact(mV (P:=P) hh hb).2
          exact Hj (P:=P) hu hinf hx hl hh hm (by grind[Hl,vB]) hb lb hmh hhm ac (some (m'-l')) ax
        . cases h
      . cases h
    . cases h
 | arr n=>cases x <;> cases mx <;> simp only[kD,reduceCtorEq]at h
end Go.Ab
namespace Go.Ab
variable {m:List Value} {t ty:TypeId} {op:BinOp} {x y:Operand} {x' y':Value}
variable {P:Program} {gl:Nat->Option AV} {ρ:aW} {w:World}
def ow (m:List Value)(off:Nat)(new:List Value):List Value:=m.take off++new++m.drop (off+new.length)
theorem VL.length {l:List AV}(h:VL ρ w l m):l.length=m.length:=h.1
theorem QW {l new:List AV}{newm:List Value}(h:VL ρ w l m)(h':VL ρ w new newm)(off:Nat):VL ρ w (overwrite l off new) (ow m off newm):=by
 unfold overwrite ow;rw[h'.length];exact((h.take off).append h').append (h.drop _)
theorem QX {new:List Value}{off:Nat}(h:off+new.length<=m.length):(ow m off new).length=m.length:=by
 simp[ow];omega
theorem Hn {off:Nat}{x:Value}{r:List Value}(h:off+(r.length+1)<=m.length):ow m off (x::r)=ow (m.set off x) (off+1) r:=by
 apply gC;intro i;unfold ow;simp only[ip,fu,d7,d8,List.length_set,c7,fY,gD,List.getElem?_cons];grind
theorem Ho (off:Nat):∀(r:List Value) (k:Nat) (m:List Value),off+k+r.length<=m.length ->
 ((r.zipIdx k).foldl (fun (cs:Array Value) (p:Value×Nat)=>cs.setIfInBounds (off+p.2) p.1) m.toArray)=(ow m (off+k) r).toArray
 | [],k,m,_=>by simp[ow]
 | x::r,k,m,h=>by
  simp only[d8]at h;simp only[List.zipIdx_cons,List.foldl_cons];rw[List.setIfInBounds_toArray,Ho off r (k+1) (m.set (off+k) x) bc,Hn ac];rfl
theorem V.one {x:AV}{v:Value}(h:V ρ w x v)(h1:x≠.dO)(h2:∀l,x≠.agg l):v.cells = #[v]:=by
 cases h <;> first|rfl|exact absurd rfl h1|grind
theorem qs {x:AV}{v:Value}(h:V ρ w x v){l:List AV}(hl:x.cells=some l):VL ρ w l v.cells.toList:=by
 by_cases h2:∃l0,x = .agg l0
 . obtain⟨l0,rfl⟩:=h2;simp only[AV.cells,ci.injEq]at hl;subst hl;obtain⟨m,rfl,hm⟩:=h.jL;simpa[Value.cells] using hm
 . have h1:x≠.dO:=fun e=>by subst e;simp[AV.cells]at hl
   have h2':∀l0,x≠.agg l0:=bc;have hl':l=[x]:=by
    cases x <;> simp only[AV.cells,ci.injEq,reduceCtorEq]at hl <;> first|exact hl.symm|exact absurd rfl h1|grind
   rw[hl',h.one h1 h2'];exact VL.cons h VL.nil
theorem vC {place:Nat->Option (Nat×Nat)}:∀(vs:List (Nat×Nat×AV)) (ps:List (Nat×Value)) (l:List AV) (m:List Value) (l':List AV),
 vs.length=ps.length->(∀(i:Nat) o n v p,vs[i]? = some (o,n,v)->ps[i]? = some p->place p.1=some (o,n)/\V ρ w v p.2) ->
 VL ρ w l m->mj l vs=some l'->∃m':List Value,Instr.fill place m.toArray ps=some m'.toArray/\VL ρ w l' m'
 | [],[],l,m,l',_,_,hl,h=>by simp[mj]at h;subst h;exact⟨m,rfl,hl⟩
 | [],_::_,_,_,_,hlen,_,_,_=>by grind
 | _::_,[],_,_,_,hlen,_,_,_=>by grind
 | (o,n,v)::vs,(j,y)::ps,l,m,l',hlen,hall,hl,h=>by
  obtain⟨hp,hv⟩:=hall 0 o n v (j,y) rfl rfl;simp only[mj]at h;split at h
  . rename_i c hc;split at h
    . rename_i hb;have hcv:=qs hv hc;have hsz:y.cells.size=n:=by rw[←hb.1,hcv.length];simp
      have hfold:=Ho o y.cells.toList 0 m (by rw[←hcv.length,hb.1,←hl.length];omega);obtain⟨m',h1,h2⟩:=vC vs ps (overwrite l o c) (ow m o y.cells.toList) l' bc
        (fun i o' n' v' p' hi hp'=>hall (i+1) o' n' v' p' bc bc) (QW hl hcv o) h
      refine⟨m',?_,h2⟩;have hp':place j=some (o,n):=hp;simp only[Instr.fill,hp'];have hcond:¬((decide (y.cells.size≠n) || decide (o+y.cells.size > m.toArray.size))=true):=by
       have h1:m.toArray.size=m.length:=by simp
       have h2:=hl.length;rw[h1];simp;omega
      rw[if_neg hcond];rw[←Array.foldl_toList,Array.toList_zipIdx];grind
    . cases h
  . cases h
theorem vD {C:Cx}{s:St}{a:Act}(r:Rel C ρ s a w){place:Nat->Option (Nat×Nat)}:∀{ps:List (Nat×Operand)} {cps:List (Nat×Nat×aZ)},lv C place ps=some cps ->
 ∀{vs:List (Nat×Nat×AV)},s.parts cps=some vs->vs.length=(ps.map fun p=>(p.1,a.eval p.2)).length /\
  ∀(i:Nat) o n v p,vs[i]? = some (o,n,v)->(ps.map fun p=>(p.1,a.eval p.2))[i]? = some p->place p.1=some (o,n)/\V ρ w v p.2
 | [],cps,hc,vs,hv=>by
  simp[lv]at hc;subst hc;simp[St.parts]at hv;grind
 | (j,x)::ps,cps,hc,vs,hv=>by
  simp only[lv]at hc;split at hc
  . rename_i o n y l h1 h2 h3;cases hc;simp only[St.parts]at hv;split at hv
    . rename_i v hv1;split at hv
      . rename_i vs' hv2;cases hv;obtain⟨e1,e2⟩:=vD r h3 hv2;refine⟨bc,fun i o' n' v' p' hi hp=>?_⟩;cases i with
        | zero=>simp at hi hp;obtain⟨rfl,rfl,rfl⟩:=hi;subst hp;exact⟨h1,r.ae h2 hv1⟩
        | succ i=>grind
      grind
    grind
  grind
theorem vE {z:AV}(h:zeroOf P t=some z):∃v,(zeroValue t).run P w = .ok v w/\V ρ w z v:=by
 unfold zeroOf at h;split at h
 . rename_i i hi;split at h
   . rename_i v hv;exact⟨v,by simp[zeroValue,vz hi,hv],ss 5 v z h⟩
   . cases h
 . cases h
theorem run_places:∀(fs:List Field) (pl:List (Nat×Nat)),ql P fs=some pl ->
 (fs.mapM fun f=>do pure (f.offset,←sizeOf f.type):Sem (List (Nat×Nat))).run P w = .ok pl w
 | [],pl,h=>by simp[ql]at h;subst h;simp
 | f::fs,pl,h=>by
  simp only[ql]at h;split at h
  . rename_i i l h1 h2;cases h;simp only[List.mapM_cons,bA,iO h1,bj,cZ];rw[run_places fs l h2];simp
  . cases h
theorem QY {C:Cx}{s:St}{a:Act}(r:Rel C ρ s a w){t:TypeId}{z:AV}{zc:List AV}{fs:Array Field}{pl:List (Nat×Nat)}(hz:zeroOf C.P t=some z)(hzc:z.cells=some zc)(hu:C.P.underlying t=some (.struct fs))
 (hpl:ql C.P fs.toList=some pl) {ps:Array (Nat×Operand)} {cps:List (Nat×Nat×aZ)} (hc:lv C (pl[·]?) ps.toList=some cps) {vs:List (Nat×Nat×AV)} (hv:s.parts cps=some vs)
 {l:List AV} (hf:mj zc vs=some l):∃v',(Instr.build t (ps.map fun p=>(p.1,a.eval p.2))).run C.P w = .ok v' w/\V ρ w (.agg l) v':=by
 obtain⟨zv,hz1,hz2⟩:=vE (P:=C.P) (ρ:=ρ) (w:=w) hz;have hzl:=qs hz2 hzc;obtain⟨e1,e2⟩:=vD r hc hv;obtain⟨m',h1,h2⟩:=vC vs _ zc _ l e1 e2 hzl hf;refine⟨.agg m'.toArray,?_,V.sr h2⟩;have hpl':=run_places (w:=w) fs.toList pl hpl;have hm:(fs.mapM fun f=>do pure (f.offset,←sizeOf f.type):Sem (Array (Nat×Nat))).run C.P w = .ok pl.toArray w:=by
  rw[Array.mapM_eq_mapM_toList,Sem.run_map,hpl'];rfl
 simp only[Instr.build,bA,hz1,bj,cE hu,hm];simp_all
theorem QZ {C:Cx}{s:St}{a:Act}(r:Rel C ρ s a w){t e:TypeId}{n:Nat}{i:TypeInfo}{z:AV}{zc:List AV}(hz:zeroOf C.P t=some z)(hzc:z.cells=some zc)(hu:C.P.underlying t=some (.array n e))
 (hi:C.P.info? e=some i) {ps:Array (Nat×Operand)} {cps:List (Nat×Nat×aZ)} (hc:lv C (fun j=>some (j*i.size,i.size)) ps.toList=some cps) {vs:List (Nat×Nat×AV)} (hv:s.parts cps=some vs)
 {l:List AV} (hf:mj zc vs=some l):∃v',(Instr.build t (ps.map fun p=>(p.1,a.eval p.2))).run C.P w = .ok v' w/\V ρ w (.agg l) v':=by
 obtain⟨zv,hz1,hz2⟩:=vE (P:=C.P) (ρ:=ρ) (w:=w) hz;have hzl:=qs hz2 hzc;obtain⟨e1,e2⟩:=vD r hc hv;obtain⟨m',h1,h2⟩:=vC (place:=fun j=>some (j*i.size,i.size)) vs _ zc _ l e1 e2 hzl hf;refine⟨.agg m'.toArray,?_,V.sr h2⟩;simp only[Instr.build,bA,hz1,bj,cE hu,iO hi];simp_all
theorem AK (mx:Bool):∀(l:List AV) (m:List Value) (k:IntKind) (a:Int) (v:AV),VL ρ w l m->jH mx (.int k a) l=some v ->
 ∃v',(m.foldlM (if mx then Builtin.max2 else Builtin.min2) (.int k a)).run P w = .ok v' w/\V ρ w v v'
 | [],m,k,a,v,hl,h=>by
  rw[hl.kG];simp[jH]at h;subst h;exact⟨_,rfl,.int _ _⟩
 | x::l,m,k,a,v,hl,h=>by
  obtain⟨y,m',rfl,hy,hl'⟩:=hl.cons_inv;unfold jH at h;split at h
  . grind
  . rename_i heq1 heq2;cases heq1;cases heq2;obtain rfl:=hy.im;split at h
    . rename_i hk;subst hk;obtain⟨v',h1,h2⟩:=AK mx l m' _ _ v hl' h;refine⟨v',?_,h2⟩;cases mx
      . simp only[i9,bA,ce,if_false,Builtin.min2,cZ,bj]at h1 ⊢;exact h1
      . simp only[i9,bA,if_true,Builtin.max2,cZ,bj]at h1 ⊢;exact h1
    . cases h
  . cases h
variable {C:Cx} {s:St} {a:Act}
theorem ot (r:Rel C ρ s a w){x:Option Operand}{y:Option aZ}(hc:mQ C x=some y){v:Option AV}(hv:s.fg y=some v):VO ρ w v (x.map a.eval):=by
 cases x with
 | none=>simp[mQ]at hc;subst hc;simp[St.fg]at hv;subst hv;trivial
 | some x0=>
  simp only[mQ,be]at hc;obtain⟨y0,h1,rfl⟩:=hc;simp only[St.fg,be]at hv;obtain⟨u,h2,rfl⟩:=hv;exact r.ae h1 h2
theorem sy (h1:¬(x' = .nilIface/\y' = .nilIface))(h2:∀a b,¬(x' = .agg a/\y' = .agg b)):(eqGuard op t x y x' y').run P w = .ok () w:=by
 have key:∀op:BinOp,(op = .eql\/op = .neq)->(eqGuard op t x y x' y').run P w = .ok () w:=by
  intro op hop;unfold eqGuard;rcases hop with rfl|rfl;all_goals
   simp only[eA,ce,if_false];split
   . exact absurd ⟨rfl,rfl⟩ h1
   . exact absurd ⟨rfl,rfl⟩ (h2 _ _)
   . rfl
 cases op
 case eql=>grind
 case neq=>grind
 all_goals rfl
theorem Ra {ms:Array (String×TypeId)}(hu:P.underlying t=some (.interface ms))(hg:((!(mw x || mw y)) && !ms.isEmpty)=false) :
 (eqGuard op t x y .nilIface .nilIface).run P w = .ok () w:=by
 obtain⟨k,hk⟩:∃k,Op.maxDepth=k+1:=⟨9999,rfl⟩;have h3:(Op.eqGuardIn Op.maxDepth t .nilIface .nilIface).run P w = .ok (!ms.isEmpty) w:=by
  rw[hk];simp only[Op.eqGuardIn,bA,cE hu,bj];rfl
 have key:∀op:BinOp,(op = .eql\/op = .neq)->(eqGuard op t x y .nilIface .nilIface).run P w = .ok () w:=by
  intro op hop;unfold eqGuard;rcases hop with rfl|rfl;all_goals
   simp only[eA,ce,if_false];cases x <;> cases y <;> simp only[mw,Bool.or_self,Bool.or_true,Bool.or_false,eA,Bool.not_false,Bool.true_and,Bool.false_and,if_true,if_false,ce]at hg ⊢;all_goals first
    | rfl
    | (simp only[bA,h3,bj,hg,ce,if_false];rfl)
 cases op
 case eql=>grind
 case neq=>grind
 all_goals rfl
theorem Rb {f n:Nat}{e:iA}{xa ya:AV}{r:Bool} 
 (hst:Ax P t=false)
 (he:ja P f (!(mw x || mw y)) t=some e) (hx:V ρ w xa x') (hy:V ρ w ya y') (hr:eZ (n+1) e xa ya=some r):(eqGuard op t x y x' y').run P w = .ok () w:=by
 cases f with
 | zero=>simp[ja]at he
 | succ f=>
 simp only[ja]at he;cases hu:P.underlying t with
 | none=>grind
 | some u=>
  simp only[Ax,hu]at he hst;cases u <;> simp only[ci.injEq,reduceCtorEq]at he
  case struct fs=>
   split at he
   . cases he
   . simp only[be]at he;obtain⟨l,hl,rfl⟩:=he;cases xa <;> cases ya <;> simp only[eZ,reduceCtorEq]at hr;obtain⟨xm,rfl,_⟩:=hx.jL;obtain⟨ym,rfl,_⟩:=hy.jL;exact run_eqGuard_agg w op t x y _ _ hst
  case array m e'=>
   split at he
   . cases he;cases xa <;> cases ya <;> simp only[eZ,reduceCtorEq]at hr;obtain⟨xm,rfl,_⟩:=hx.jL;obtain⟨ym,rfl,_⟩:=hy.jL;exact run_eqGuard_agg w op t x y _ _ hst
   grind
  case interface ms=>
   subst he;cases xa <;> cases ya <;> simp only[eZ,reduceCtorEq]at hr
   . cases hx;cases hy;exact sy ax ax
   . cases hx;cases hy;exact sy ax ax
   . split at hr
     . cases hr
     . rename_i hg;cases hx;cases hy;exact Ra hu bc
  all_goals
   subst he;refine sy ?_ ?_
   . rintro⟨rfl,rfl⟩;cases hx <;> cases hy <;> simp[eZ,jX]at hr
   . rintro a b ⟨rfl,rfl⟩;cases hx <;> cases hy <;> simp[eZ,jX]at hr
def qu:Value->Bool
 | .int _ _ | .float _ _ | .complex _ _ _ | .string _=>true
 | _=>false
theorem binOp_eql (h:qu x'=false):binOp .eql t x' y'=(do pure (.bool (←Op.equal t x' y'))):=by
 cases x' <;> simp only[qu,reduceCtorEq]at h <;> rfl
theorem binOp_neq (h:qu x'=false):binOp .neq t x' y'=(do pure (.bool (!(←Op.equal t x' y')))):=by
 cases x' <;> simp only[qu,reduceCtorEq]at h <;> rfl
theorem Rc {d n:Nat}{g:Bool}{e:iA}(hs:vk P t=false)(he:ja P d g t=some e){xa ya:AV}{x':Value}(hx:V ρ w xa x'){b:Bool}(hb:eZ (n+1) e xa ya=some b):qu x'=false:=by
 cases d with
 | zero=>simp[ja]at he
 | succ d=>
 simp only[ja]at he;cases hu:P.underlying t with
 | none=>grind
 | some u=>
  simp only[hu]at he;simp only[vk,hu]at hs;cases u <;> simp only[ci.injEq,reduceCtorEq]at he hs
  case struct fs=>
   split at he
   . cases he
   . simp only[be]at he;obtain⟨l,hl,rfl⟩:=he;cases xa <;> cases ya <;> simp only[eZ,reduceCtorEq]at hb;obtain⟨xm,rfl,_⟩:=hx.jL;rfl
  case array m e'=>
   split at he
   . cases he;cases xa <;> cases ya <;> simp only[eZ,reduceCtorEq]at hb;obtain⟨xm,rfl,_⟩:=hx.jL;rfl
   grind
  all_goals
   subst he;cases hx <;> first|rfl|(cases ya <;> simp[eZ,jX]at hb)
theorem iQ {e:Operand->Value}{dst:Option Tmp}{b:Builtin}{args:Array Operand}{ats:Array TypeId}{pos:String}{af:Array Edge}{gd:Option (Nat×Bool)} :
 (execOp e ⟨dst,.call ⟨.builtin b,args,ats⟩,ty,pos,af,gd⟩).run P w=(builtin b ats ty (args.map fun | .const _=>true|_=>false) (args.map e)).run P w:=by
 rfl
theorem jc {α:Type}{x:Array α}{l:List α}(h:x.toList=l):x=l.toArray:=by
 rw[←h]
theorem qy {x:List Operand}{y:aZ}(h:iZ C x=some [y]):∃x0,x=[x0]/\ij C x0=some y:=by
 match x,h with
 | [],h=>simp[iZ]at h
 | [x0],h=>
  simp only[iZ]at h;grind
 | x0::x1::r,h=>
  simp only[iZ]at h;grind
theorem AL {x:List Operand}{y z:aZ}(h:iZ C x=some [y,z]):∃x0 x1,x=[x0,x1]/\ij C x0=some y/\ij C x1=some z:=by
 match x,h with
 | [],h=>simp[iZ]at h
 | x0::r,h=>
  simp only[iZ]at h;split at h
  . rename_i a l h1 h2;cases h;obtain⟨x1,rfl,h3⟩:=qy h2;grind
  . cases h
def Hp (P:Program)(t:TypeId):mP->Prop
 | .str=>P.underlying t=some .string
 | .sl=>∃e,P.underlying t=some (.slice e)
 | .arr n=>∃e,P.underlying t=some (.array n e)
def sC:mP->AV->Option AV
 | .arr n,_=>some (.int .i64 n)
 | k,x=>vi k x
theorem Re {k:mP}(hk:Hp P t k){x v:AV}{x':Value}(hx:V ρ w x x')
 (h:sC k x=some v):∃v',(Builtin.len_ #[t] ty #[x']).run P w = .ok v' w/\V ρ w v v':=by
 cases k with
 | arr n=>
  obtain⟨e,hu⟩:=hk;simp only[sC,ci.injEq]at h;subst h;refine⟨goInt n,?_,.int _ _⟩;simp[Builtin.len_,cE hu]
 | str=>
  cases x <;> simp only[sC,vi,reduceCtorEq,ci.injEq]at h;subst h;obtain rfl:=hx.kH;refine⟨.int .i64 _,?_,.int _ _⟩;have hk':P.underlying t=some .string:=hk;simp only[Builtin.len_,List.getElem?_toArray,List.getElem?_cons_zero,bA,cE hk',bj];rfl
 | sl=>
  obtain⟨e,hu⟩:=hk;have hnil:∀l,(x = .ah/\l=0)\/(∃b o es c,x = .sl b o l es c)\/(∃q c,x = .vs q l c)->∃v',(Builtin.len_ #[t] ty #[x']).run P w = .ok v' w/\V ρ w (.int .i64 l) v':=by
   intro l hl;have:∃a c,x' = .slice a l c:=by
    rcases hl with ⟨rfl,rfl⟩|⟨b,o,es,c,rfl⟩|⟨q,c,rfl⟩
    . cases hx;simp
    . obtain⟨a,l',c',rfl,_⟩:=lF hx trivial;obtain⟨rfl,_⟩:=sw hx;simp
    . obtain⟨a,l',c',rfl,_⟩:=lF hx trivial;obtain⟨rfl,_⟩:=sx hx;simp
   obtain⟨a,c,rfl⟩:=this;exact⟨goInt l,by simp[Builtin.len_,cE hu],.int _ _⟩
  cases x <;> simp only[sC,vi,reduceCtorEq,ci.injEq]at h <;> subst h
  . grind
  . simp_all
  simp_all
theorem Rf {e:TypeId}(hu:P.underlying t=some (.slice e)){x:AV}{x':Value}(hx:V ρ w x x'){n:Nat}(h:x = .ah/\n=0\/(∃b o l es,x = .sl b o l es (some n))\/∃q l,x = .vs q l (some n)) :
 (Builtin.cap_ #[t] ty #[x']).run P w = .ok (.int .i64 n) w:=by
 have:∃a l,x' = .slice a l n:=by
  rcases h with ⟨rfl,rfl⟩|⟨b,o,l,es,rfl⟩|⟨q,l,rfl⟩
  . cases hx;simp
  . obtain⟨a,l',c',rfl,_⟩:=lF hx trivial;obtain⟨rfl,hc⟩:=sw hx;grind
  . obtain⟨a,l',c',rfl,_⟩:=lF hx trivial;obtain⟨rfl,hc⟩:=sx hx;grind
 obtain⟨a,l,rfl⟩:=this;simp[Builtin.cap_,cE hu,goInt]
theorem Rg (r:Rel C ρ s a w){o:Oper}{io:bI}(hc:jJ C o=some io)(hh:io.bU=false){v:AV}(hv:bF s io=some v) :
 ∃v',(execOp a.eval o).run C.P w = .ok (.value v') w/\V ρ w v v':=by
 obtain⟨dst,op,ty,pos,af,gd⟩:=o;cases op <;> simp only[jJ]at hc
 case move x=>
  simp only[be]at hc;obtain⟨y,h1,rfl⟩:=hc;exact⟨_,by rfl,r.ae h1 hv⟩
 case assign x=>
  simp only[be]at hc;obtain⟨y,h1,rfl⟩:=hc;exact⟨_,by rfl,r.ae h1 hv⟩
 case pick c x y=>
  split at hc
  . rename_i c' x' y' h1 h2 h3;cases hc;simp only[bF]at hv;split at hv
    . rename_i t av bv hc' ha' hb';have e1:=(r.ae h1 hc').mU;cases hv;refine⟨_,by simp[execOp,e1,asBool] <;> rfl,?_⟩;cases t
      . exact r.ae h3 hb'
      . exact r.ae h2 ha'
    . rename_i t av hc' ha' hb';have e1:=(r.ae h1 hc').mU;split at hv
      . rename_i ht;subst ht;cases hv;exact⟨_,by simp[execOp,e1,asBool] <;> rfl,r.ae h2 ha'⟩
      grind
    . rename_i t bv hc' ha' hb';have e1:=(r.ae h1 hc').mU;split at hv
      . cases hv
      . rename_i ht;obtain rfl:t=false:=by grind
        cases hv;exact⟨_,by simp[execOp,e1,asBool] <;> rfl,r.ae h3 hb'⟩
    grind
  grind
 case build t ps=>
  split at hc
  . rename_i z hz;split at hc
    . rename_i zc fs hzc hu;split at hc
      . rename_i pl hpl;simp only[be]at hc;obtain⟨cps,h1,rfl⟩:=hc;simp only[bF]at hv;split at hv
        . rename_i vs hvs;simp only[be]at hv;obtain⟨l,hl,rfl⟩:=hv;obtain⟨v',h2,h3⟩:=QY r hz hzc hu hpl h1 hvs hl;exact⟨v',by simp[execOp,h2],h3⟩
        grind
      grind
    . rename_i zc n e hzc hu;split at hc
      . rename_i i hi;simp only[be]at hc;obtain⟨cps,h1,rfl⟩:=hc;simp only[bF]at hv;split at hv
        . rename_i vs hvs;simp only[be]at hv;obtain⟨l,hl,rfl⟩:=hv;obtain⟨v',h2,h3⟩:=QZ r hz hzc hu hi h1 hvs hl;exact⟨v',by simp[execOp,h2],h3⟩
        grind
      grind
    grind
  grind
 case nilCheck x=>
  simp only[be]at hc;obtain⟨y,h1,rfl⟩:=hc;simp only[bF,bZ]at hv;obtain⟨u,h2,h3⟩:=hv;exact QI (r.ae h1 h2) h3 _ _ _ _ _ _ _ rfl
 case binOp op t x y u=>
  split at hc
  . rename_i x' y' h1 h2;split at hc
    . rename_i hcmp;split at hc
      . cases hc;simp[bI.bU]at hh
      split at hc
      . cases hc
      . rename_i hst;simp only[be]at hc;obtain⟨e,he,rfl⟩:=hc;simp only[bF]at hv;split at hv
        . rename_i xa ya hx hy;split at hv
          . rename_i b hb;cases hv;have gx:=r.ae h1 hx;have gy:=r.ae h2 hy;have hg:=Rb (w:=w) (op:=op) (n:=99) bc he gx gy hb;have hE:=QG 100 20 _ t e he xa ya _ _ b gx gy hb 10000 ac;have hE':(Op.equal t (a.eval x) (a.eval y)).run C.P w = .ok b w:=hE;have hns:vk C.P t=false:=by
             simp only[gF,Bool.not_eq_true']at hcmp;exact hcmp.2
            have hcm:sn op=true:=by
             simp only[gF]at hcmp;exact hcmp.1
            have hnum:=Rc hns he gx hb;refine⟨_,?_,.bool _⟩;cases op <;> simp only[sn,ce]at hcm
            . simp[execOp,hg,binOp_eql hnum,hE']
            . simp[execOp,hg,binOp_neq hnum,hE']
          grind
        grind
    . rename_i hcmp;cases hc;simp only[bF]at hv;split at hv
      . rename_i xa ya hx hy;have gx:=r.ae h1 hx;have gy:=r.ae h2 hy;obtain⟨v',h3,h4⟩:=Qv (P:=C.P) gx gy hv t;have hg:(eqGuard op t x y (a.eval x) (a.eval y)).run C.P w = .ok () w:=by
         refine sy ?_ ?_
         . rintro⟨e1,e2⟩;rw[e1]at gx;rw[e2]at gy;cases gx <;> cases gy <;> simp[dS]at hv
         . rintro p q ⟨e1,e2⟩;rw[e1]at gx;rw[e2]at gy;cases gx <;> cases gy <;> simp[dS]at hv
        exact⟨v',by simp[execOp,hg,h3],h4⟩
      grind
  grind
 case unOp op t x=>
  simp only[be]at hc;obtain⟨y,h1,rfl⟩:=hc;simp only[bF,bZ]at hv;obtain⟨u,h2,h3⟩:=hv;obtain⟨v',h4,h5⟩:=Qw (P:=C.P) (r.ae h1 h2) h3;exact⟨v',by simp[execOp,h4],h5⟩
 case convert src dst x=>
  split at hc <;> try (cases hc;done)
  . rename_i k' k y hs hd h1;cases hc;simp only[bF,bZ]at hv;obtain⟨u,h2,h3⟩:=hv;obtain⟨v',h4,h5⟩:=QH hs hd (r.ae h1 h2) h3;exact⟨v',by simp[execOp,h4],h5⟩
  . rename_i k y hs hd h1;cases hc;simp only[bF]at hv;split at hv
    . rename_i k0 n h2;cases hv;have e:=(r.ae h1 h2).im;refine⟨.string (Utf8.encode n),?_,V.Az _⟩;simp[execOp,e,convert,cE hs,cE hd,Conv.intToString]
    grind
  . rename_i y hs hd h1;cases hc;simp only[bF]at hv;split at hv
    . rename_i st h2;cases hv;have e:=(r.ae h1 h2).kH;refine⟨_,?_,V.str _⟩;simp[execOp,e,convert,cE hs,cE hd]
    grind
  . split at hc
    . split at hc
      . cases hc
      . cases hc;simp[bI.bU]at hh
    grind
  . split at hc
    . cases hc;simp[bI.bU]at hh
    grind
  . split at hc
    . split at hc
      . cases hc
      . cases hc;simp[bI.bU]at hh
    grind
  . split at hc
    . split at hc
      . cases hc;simp[bI.bU]at hh
      grind
    grind
 case makeInterface t x=>
  split at hc
  . cases hc
  . rename_i u hni hu;simp only[be]at hc;obtain⟨y,h1,rfl⟩:=hc;simp only[bF,be]at hv;obtain⟨xa,h2,rfl⟩:=hv;refine⟨_,?_,.iface (r.ae h1 h2)⟩;cases u <;> first|(exact absurd rfl (hni _))|simp[execOp,Instr.makeInterface,cE hu]
  grind
 case typeAssert x xt t ok=>
  split at hc
  . cases hc
  . rename_i u hni hu;split at hc
    . rename_i x' z h1 h2;cases hc;obtain⟨zv,hz1,hz2⟩:=vE (P:=C.P) (w:=w) (ρ:=ρ) h2;simp only[bF]at hv;split at hv
      . rename_i u0 va h3;have e0:=r.ae h1 h3;generalize hxv:a.eval x=xv at e0;cases e0 with
        | @iface _ _ v' hin=>
         split at hv
         . rename_i e;subst e;cases ok
           . cases hv;exact⟨v',by cases u <;> first|(exact absurd rfl (hni _))|simp[execOp,hxv,Instr.typeAssert,cE hu],hin⟩
           . cases hv;exact⟨.tuple #[v',.bool true],by cases u <;> first|(exact absurd rfl (hni _))|simp[execOp,hxv,Instr.typeAssert,cE hu],.jm (.cons hin (.cons (.bool _) .nil))⟩
         . rename_i e;cases ok
           . cases hv
           . cases hv;exact⟨.tuple #[zv,.bool false],by cases u <;> first|(exact absurd rfl (hni _))|simp[execOp,hxv,Instr.typeAssert,cE hu,e,hz1],.jm (.cons hz2 (.cons (.bool _) .nil))⟩
      . rename_i h3;have e0:=r.ae h1 h3;generalize hxv:a.eval x=xv at e0;cases e0 with
        | eH=>
         cases ok
         . cases hv
         . cases hv;exact⟨.tuple #[zv,.bool false],by cases u <;> first|(exact absurd rfl (hni _))|simp[execOp,hxv,Instr.typeAssert,cE hu,hz1],.jm (.cons hz2 (.cons (.bool _) .nil))⟩
      grind
    grind
  grind
 case makeFunc f fi ca=>
  split at hc
  . cases hc
  . rename_i hy;split at hc
    . rename_i fi' ca' h1 h2;cases hc;simp only[bF]at hv;split at hv
      . rename_i va vb h3 h4;cases hv;have g1:=r.db h1 h3;have g2:=r.db h2 h4;refine⟨_,by simp[execOp,Instr.makeFunc] <;> rfl,?_⟩;have e1:fi.map a.eval=(fi.toList.map a.eval).toArray:=by rw[←dz,dg]
        have e2:ca.map a.eval=(ca.toList.map a.eval).toArray:=by rw[←dz,dg]
        rw[e1,e2];refine .fn (fun l e=>hy (by subst e;rfl)) g1.1 g2.1 g1.2 g2.2
      grind
    grind
 case slice t x lo hi mx=>
  split at hc <;> try (cases hc;done)
  . rename_i x' l h hu h1 h2 h3 h4;cases hc;simp only[bF]at hv;split at hv
    . rename_i xa hx;split at hv
      . rename_i la ha ma hl hh' hm;split at hv
        . rename_i hmh;have e4:mx=none:=by cases mx with
            | none=>rfl
            | some m=>simp[mQ]at h4
          subst e4;simp only[St.fg,ci.injEq]at hm;subst hm;obtain⟨v',h5,h6⟩:=Hm (P:=C.P) (t:=t) (k:=.str) (esz:=1) hu (r.ae h1 hx) (ot r h2 hl) (ot r h3 hh') (mx':=none) (show VO ρ w none none from trivial) (.inl rfl) hv;exact⟨v',by simp[execOp,h5],h6⟩
        grind
      grind
    grind
  . rename_i e x' l h m hu h1 h2 h3 h4;split at hc
    . rename_i i hi';cases hc;simp only[bF]at hv;split at hv
      . rename_i xa hx;split at hv
        . rename_i la ha ma hl hh' hm;split at hv
          . rename_i hmh;obtain⟨v',h5,h6⟩:=Hm (P:=C.P) (t:=t) (k:=.sl) (esz:=i.size) ⟨e,i,hu,hi',rfl⟩ (r.ae h1 hx) (ot r h2 hl) (ot r h3 hh') (ot r h4 hm) (by cases ma <;> cases ha <;> simp at hmh ⊢) hv;exact⟨v',by simp[execOp,h5],h6⟩
          grind
        grind
      grind
    grind
  . split at hc
    . cases hc;simp[bI.bU]at hh
    grind
 case fieldAddr t x f=>
  split at hc <;> try (cases hc;done)
  rename_i fs x' hu h1;split at hc <;> try (cases hc;done)
  rename_i fd hf;split at hc <;> try (cases hc;done)
  rename_i i hi';split at hc
  . cases hc
  . rename_i h0;cases hc;simp only[bF,bZ]at hv;obtain⟨u,h2,h3⟩:=hv;obtain⟨v',h4,h5⟩:=QK hu hf hi' h0 (r.ae h1 h2) h3;exact⟨v',by simp[execOp,h4],h5⟩
 case field t x f=>
  split at hc <;> try (cases hc;done)
  rename_i fs x' hu h1;split at hc <;> try (cases hc;done)
  rename_i fd hf;split at hc <;> try (cases hc;done)
  rename_i n ag hs;cases hc;simp only[bF]at hv;split at hv
  . rename_i l hx;obtain⟨v',h4,h5⟩:=QO hu hf hs (r.ae h1 hx) hv;exact⟨v',by simp[execOp,h4],h5⟩
  grind
 case indexAddr t x i=>
  split at hc <;> try (cases hc;done)
  . rename_i n e x' i' hu h1 h2;split at hc <;> try (cases hc;done)
    rename_i inf hinf;cases hc;simp only[bF]at hv;split at hv
    . rename_i xa ia hx hi';obtain⟨v',h4,h5⟩:=Hg (P:=C.P) (t:=t) (arr:=some n) hu hinf (r.ae h1 hx) (r.ae h2 hi') hv;exact⟨v',by simp[execOp,h4],h5⟩
    grind
  . rename_i e x' i' hu h1 h2;split at hc <;> try (cases hc;done)
    rename_i inf hinf;cases hc;simp only[bF]at hv;split at hv
    . rename_i xa ia hx hi';obtain⟨v',h4,h5⟩:=Hg (P:=C.P) (t:=t) (arr:=none) hu hinf (r.ae h1 hx) (r.ae h2 hi') hv;exact⟨v',by simp[execOp,h4],h5⟩
    grind
 case index t x i=>
  split at hc <;> try (cases hc;done)
  . rename_i x' i' hu h1 h2;cases hc;simp only[bF]at hv;split at hv
    . rename_i xa ia hx hi';obtain⟨v',h4,h5⟩:=QM hu (r.ae h1 hx) (r.ae h2 hi') hv;exact⟨v',by simp[execOp,h4],h5⟩
    grind
  . rename_i n e x' i' hu h1 h2;split at hc <;> try (cases hc;done)
    rename_i sz ag hs;cases hc;simp only[bF]at hv;split at hv
    . rename_i l k m hx hi';split at hv
      . rename_i hb;have ei:=(r.ae h2 hi').im;obtain⟨v',h4,h5⟩:=QN hu hs (r.ae h1 hx) (k:=k) hb.1 hb.2 hv;exact⟨v',by simp[execOp,ei,h4],h5⟩
      grind
    grind
 case extract x i=>
  simp only[be]at hc;obtain⟨y,h1,rfl⟩:=hc;simp only[bF]at hv;split at hv
  . rename_i l hx;obtain⟨v',h4,h5⟩:=Qz (P:=C.P) (r.ae h1 hx) hv;exact⟨v',by simp[execOp,h4],h5⟩
  grind
 case call c=>
  obtain⟨callee,args,ats⟩:=c;cases callee with
  | value f=>
   simp only at hc;split at hc
   . cases hc;simp[bI.bU]at hh
   grind
  | invoke x name=>
   simp only at hc;split at hc
   . cases hc;simp[bI.bU]at hh
   grind
  | builtin b=>
   simp only at hc;split at hc <;> try (cases hc;done)
   . -- len
     rename_i t x h1 h2;obtain rfl:=jc h1;obtain⟨x0,hx0,h3⟩:=qy h2;obtain rfl:=jc hx0;have fin:∀k,Hp C.P t k->io = .len k x ->
      ∃v',(execOp a.eval ⟨dst,.call ⟨.builtin .len,[x0].toArray,[t].toArray⟩,ty,pos,af,gd⟩).run C.P w = .ok (.value v') w/\V ρ w v v':=by
      rintro k hk rfl;simp only[bF]at hv;have:∃xa,V ρ w xa (a.eval x0)/\sC k xa=some v:=by
       cases k with
       | arr n=>exact⟨.dO,.dO _,hv⟩
       | str=>simp only[bZ]at hv;obtain⟨u,h4,h5⟩:=hv;exact⟨u,r.ae h3 h4,h5⟩
       | sl=>simp only[bZ]at hv;obtain⟨u,h4,h5⟩:=hv;exact⟨u,r.ae h3 h4,h5⟩
      obtain⟨xa,h4,h5⟩:=this;obtain⟨v',h6,h7⟩:=Re (ty:=ty) hk h4 h5;refine⟨v',?_,h7⟩;rw[iQ];simp[builtin,h6]
     split at hc
     . rename_i n e hu;cases hc;exact fin (.arr n) ⟨e,hu⟩ rfl
     . cases hc;simp[bI.bU]at hh
     . rename_i hu;cases hc;exact fin .str hu rfl
     . rename_i e hu;cases hc;exact fin .sl ⟨e,hu⟩ rfl
     grind
   . -- cap
     rename_i t x h1 h2;obtain rfl:=jc h1;obtain⟨x0,hx0,h3⟩:=qy h2;obtain rfl:=jc hx0;split at hc <;> try (cases hc;done)
     rename_i e hu;cases hc;have fin:∀n,(∃xa,V ρ w xa (a.eval x0)/\(xa = .ah/\n=0\/(∃b o l es,xa = .sl b o l es (some n))\/∃q l,xa = .vs q l (some n)))->v = .int .i64 n ->
      ∃v',(execOp a.eval ⟨dst,.call ⟨.builtin .cap,[x0].toArray,[t].toArray⟩,ty,pos,af,gd⟩).run C.P w = .ok (.value v') w/\V ρ w v v':=by
      rintro n ⟨xa,h4,h5⟩ rfl;have h6:=Rf (ty:=ty) hu h4 h5;refine⟨_,?_,.int _ _⟩;rw[iQ];simp[builtin,h6]
     simp only[bF]at hv;split at hv <;> try (cases hv;done)
     . rename_i h4;cases hv;exact fin 0 ⟨_,r.ae h3 h4,ax⟩ rfl
     . rename_i h4;cases hv;exact fin _ ⟨_,r.ae h3 h4,ax⟩ rfl
     . rename_i h4;cases hv;exact fin _ ⟨_,r.ae h3 h4,ax⟩ rfl
   . -- append
     split at hc
     . split at hc
       . cases hc;simp[bI.bU]at hh
       grind
     . split at hc
       . cases hc;simp[bI.bU]at hh
       grind
     grind
   . -- copy
     split at hc
     . split at hc
       . cases hc;simp[bI.bU]at hh
       grind
     grind
   . -- clear
     split at hc
     . split at hc
       . split at hc
         . cases hc;simp[bI.bU]at hh
         grind
       grind
     grind
   . -- unsafe.SliceData
     rename_i t x h1 h2;obtain rfl:=jc h1;obtain⟨x0,hx0,h3⟩:=qy h2;obtain rfl:=jc hx0;split at hc <;> try (cases hc;done)
     rename_i e hu;cases hc;simp only[bF]at hv;split at hv <;> try (cases hv;done)
     . rename_i h4;cases hv;have e0:=r.ae h3 h4;generalize hxv:a.eval x0=xv at e0;cases e0;refine⟨.pointer none,?_,.fx⟩;rw[iQ];simp[builtin,hxv,Lib.run_unsafeSliceData_nil]
     . rename_i b o len es cap h4;cases hv;have e0:=r.ae h3 h4;generalize hxv:a.eval x0=xv at e0;cases e0 with
       | @sl _ c d _ _ _ capC _ h hl hcap hb=>
        have hc0:capC≠0:=by omega
        refine⟨_,?_,.ptr o h⟩;rw[iQ];simp[builtin,hxv,Lib.run_unsafeSliceData_row (P:=C.P) w _ _ _ _ _ hc0]
       | @fQ _ _ _ _ capC _ c o' h hl hcap=>
        have hc0:capC≠0:=by omega
        refine⟨_,?_,.fA o c o' h⟩;rw[iQ];simp[builtin,hxv,Lib.run_unsafeSliceData_row (P:=C.P) w _ _ _ _ _ hc0]
   . -- unsafe.String
     split at hc
     . split at hc
       . cases hc;simp[bI.bU]at hh
       grind
     grind
   . -- max
     rename_i xs h2;cases hc;simp only[bF]at hv;split at hv <;> try (cases hv;done)
     rename_i k n rest h4;obtain⟨y,m',he,hy,hl⟩:=(r.db h2 h4).cons_inv;obtain rfl:=hy.im;obtain⟨v',h5,h6⟩:=AK (P:=C.P) true rest m' k n v hl hv;refine⟨v',?_,h6⟩;rw[iQ];simp only[if_true]at h5;simp[builtin,Builtin.max_,he,h5]
   . rename_i xs h2;cases hc;simp only[bF]at hv;split at hv <;> try (cases hv;done)
     rename_i k n rest h4;obtain⟨y,m',he,hy,hl⟩:=(r.db h2 h4).cons_inv;obtain rfl:=hy.im;obtain⟨v',h5,h6⟩:=AK (P:=C.P) false rest m' k n v hl hv;refine⟨v',?_,h6⟩;rw[iQ];simp only[ce,if_false]at h5;simp[builtin,Builtin.min_,he,h5]
 all_goals exfalso
 case next x b=>cases b <;> simp at hc;obtain⟨_,_,rfl⟩:=hc;simp[bI.bU]at hh
 case makeMap t r=>cases r <;> simp at hc;subst hc;simp[bI.bU]at hh
 all_goals first
  | (cases hc;done)
  | (simp only[be]at hc;obtain⟨_,_,rfl⟩:=hc;simp[bI.bU]at hh;done)
  | (cases hc;simp[bI.bU]at hh;done)
  | (
     repeat' (split at hc)
     all_goals first
      | (cases hc;done)
      | (cases hc;simp[bI.bU]at hh;done)
      | (simp only[be]at hc;obtain⟨_,_,rfl⟩:=hc;simp[bI.bU]at hh;done))
end Go.Ab
namespace Go.Ab
variable {cs:Array Value} {e:TypeId} {O:Obj} {c:Nat} {fr:Nat×Nat}
variable {P:Program} {gl:Nat->Option AV} {ρ:aW} {w:World} {h:ab}
def fE (P:Program)(gl:Nat->Option AV)(ρ:aW)(h:ab)(w:World)(r:HR)(v':Value)(w':World):Prop:=
 ∃ρ',V ρ' w' r.v v'/\Mem P gl ρ' r.h w'/\Ext h r.h ρ ρ' w w'
theorem VL.toList {l:List AV}{m:Array Value}(hl:VL ρ w l m.toList):l.length=m.size:=by rw[hl.length];simp
theorem Hq (m:Mem P gl ρ h w){l:List AV}{cs:Array Value}(e:TypeId)(hl:VL ρ w l (cs.toList.take l.length))(hlen:l.length<=cs.size)(hex:jY P e=true->l.length=cs.size) :
 Mem P gl (ρ.fe h.length (.live w.heap.size 0)) (h++[some (.cells l e)]) { w with heap:=w.heap.push (.cells cs e) } /\
 Ext h (h++[some (.cells l e)]) ρ (ρ.fe h.length (.live w.heap.size 0)) w { w with heap:=w.heap.push (.cells cs e) }:=by
 have x:=Ext.alloc m (some (.cells l e)) (.cells cs e) (.live w.heap.size 0) ax;refine⟨Mem.alloc m _ _ _ ax ?_,x⟩;intro o' ho;cases ho;refine .inl ⟨w.heap.size,0,cs,(0,0),aW.gQ _ _ _,ax,⟨ac,fun he=>⟨rfl,hex he⟩⟩,fun i _=>ax,fun i a y hx hy=>?_⟩;have hi:i<l.length:=(br.1 hx).1;refine(hl.2 i a y hx ?_).mono x<;>grind
theorem Rh (m:Mem P gl ρ h w){l:List AV}{cs:Array Value}(e:TypeId)(hl:VL ρ w l cs.toList) :
 Mem P gl (ρ.fe h.length (.live w.heap.size 0)) (h++[some (.cells l e)]) { w with heap:=w.heap.push (.cells cs e) } /\
 Ext h (h++[some (.cells l e)]) ρ (ρ.fe h.length (.live w.heap.size 0)) w { w with heap:=w.heap.push (.cells cs e) }:=
 Hq m e (by rw[hl.length,d9];exact hl) (by rw[hl.toList];simp) (fun _=>hl.toList)
theorem AM {len esz capC:Nat}{cap:Option Nat}(hl:len<=capC)(hcap:∀n,cap=some n->capC=n)(hb:capC*esz<=cs.size) :
 V (ρ.fe h.length (.live w.heap.size 0)) { w with heap:=w.heap.push (.cells cs e) } (.sl h.length 0 len esz cap) (.slice (some ⟨w.heap.size,0,none⟩) len capC):=
 V.sl (d:=0) ax hl hcap ⟨cs,e,(0,0),ax,ac⟩
theorem AN:V (ρ.fe h.length (.live w.heap.size 0)) { w with heap:=w.heap.push O } (.ptr h.length 0) (.pointer (some ⟨w.heap.size,0,none⟩)):=
 V.ptr (d:=0) 0 ax
theorem readable (m:Mem P gl ρ h w){x:AV}{x':Value}(hx:V ρ w x x'){l:List AV}(hr:gr h x=some l) :
 ∃(c o:Nat) (g:Nat->Value),x' = .pointer (some ⟨c,o,none⟩)/\∀(i:Nat) y,l[i]? = some y->w.cell? ⟨c,o+i,none⟩=some (g i)/\V ρ w y (g i):=by
 cases x <;> simp only[gr,reduceCtorEq]at hr
 case ptr b off=>
  obtain⟨l0,e,hb',rfl⟩:∃l0 e,h[b]? = some (some (.cells l0 e))/\l0.drop off=l:=by
   unfold ab.at at hr;grind
  rcases m.dP b _ hb' with ⟨c,d,cs,fr,h1,h2,h3,h4,h5⟩|⟨h1,h2⟩
  . cases hx with
    | ptr _ hρ=>
     rw[h1]at hρ;cases hρ;refine⟨c,off+d,fun i=>cs.getD (off+d+i) undef,rfl,fun i y hy=>?_⟩;have hy':l0[off+i]? = some y:=by simpa using hy
     have hlt:off+i<l0.length:=(br.1 hy').1;have hcs:cs[off+i+d]? = some (cs.getD (off+d+i) undef):=by
      have:off+d+i=off+i+d:=by omega
      rw[this];have hlt':off+i+d<cs.size:=by have:=h3.1;omega
      simp[hlt']
     refine⟨?_,h5 (off+i) y _ hy' hcs⟩;unfold f9;grind
    | fA _ _ _ hρ=>grind
  . subst h2;cases hx<;>grind
 case vp l0=>
  cases hr;cases hx with
  | vp c o g hf hc hg=>
   exact⟨c,o,g,rfl,fun i y hy=>⟨hc i (br.1 hy).1,hg i y hy⟩⟩
theorem run_loadCellsFrom {c o:Nat}{g:Nat->Value}:∀(n i:Nat) (acc:Array Value),(∀j,i<=j->j<i+n->w.cell? ⟨c,o+j,none⟩=some (g j)) ->
 (loadCellsFrom ⟨c,o,none⟩ i n acc).run P w = .ok (acc++((f7 i n).map g).toArray) w
 | 0,i,acc,_=>by rfl
 | n+1,i,acc,hc=>by
  have h0:=hc i (b9 _) ac;simp only[loadCellsFrom,bA,Addr.iP,run_load,h0,bj];rw[run_loadCellsFrom n (i+1) _ (fun j h1 h2=>hc j ac ac)];simp[i8]
theorem Hr {t:TypeId}{n:Nat}{ag:Bool}(hs:shapeOf P t=some (n,ag)){c o:Nat}{g:Nat->Value}{l:List AV}
 (hr:∀(i:Nat) y,l[i]? = some y->w.cell? ⟨c,o+i,none⟩=some (g i)/\V ρ w y (g i)) {v:AV} (hv:partOf l 0 n ag=some v) :
 ∃v',(loadVar t ⟨c,o,none⟩).run P w = .ok v' w/\V ρ w v v':=by
 obtain⟨i,d,h1,h2,rfl,rfl⟩:=su hs;unfold partOf at hv;simp only[loadVar,bA,He h2,bj];split at hv
 . rename_i hag;simp only[be]at hv;obtain⟨r,hr',rfl⟩:=hv;unfold cut at hr';simp only[List.drop_zero]at hr';split at hr'
   . rename_i hl;cases hr';have hl':i.size<=l.length:=by simp at hl;omega
     rw[if_pos hag];have hrun:=run_loadCellsFrom (P:=P) (w:=w) (c:=c) (o:=o) (g:=g) i.size 0 #[] (fun j _ hj=>by
      have hj':j<l.length:=by omega
      simp_all)
     refine⟨.agg ((f7 0 i.size).map g).toArray,?_,V.sr ⟨bc,fun j x y hx hy=>?_⟩⟩
     . simp only[bA,iO h1,bj,loadCells,hrun];simp
     grind
   grind
 . rename_i hag;rw[if_neg hag];obtain⟨h3,h4⟩:=hr 0 v hv<;>simp_all
theorem Ri {x:AV}{v:Value}(hx:V ρ w x v)(h:dx x=true):v.oneCell'=true:=by
 cases hx <;> first|rfl|(simp[dx]at h)
theorem Rj {o:Nat}(h:w.heap[c]? = some (.cells cs e fr)):w.cell? ⟨c,o,none⟩=cs[o]? := by
 unfold f9;simp[h]
theorem Rk {o:Nat}(h:w.heap[c]? = some (.cells cs e fr))(v:Value) :
 w.setCell ⟨c,o,none⟩ v=w.dY c (.cells (cs.setIfInBounds o v) e fr):=by
 have hlt:=(cD.1 h).1;have hg:=(cD.1 h).2;unfold World.setCell World.dY;congr 1<;>grind
theorem Rl {O':Obj}:(w.dY c O).dY c O'=w.dY c O':=by
 unfold World.dY;simp
theorem Rm (h:w.heap[c]? = some O):w.dY c O=w:=by
 have hlt:=(cD.1 h).1;have hg:=(cD.1 h).2;unfold World.dY;have:w.heap.setIfInBounds c O=w.heap:=by
  apply Array.ext_getElem?;intro i;rw[Array.getElem?_setIfInBounds];by_cases hi:c=i
  . grind
  . grind
 rw[this]
theorem Hs {i:Nat}{cs':Array Value}(h:w.heap[c]? = some (.cells cs e fr)) :
 (w.dY c (.cells cs' e fr)).frozen? ⟨c,i,none⟩=w.frozen? ⟨c,i,none⟩:=by
 unfold iH;grind[oh]
theorem Ht {c o:Nat}{e:TypeId}{fr:Nat×Nat}:∀(vs:List Value) (i:Nat) (w:World) (cs:Array Value),w.heap[c]? = some (.cells cs e fr)->o+i+vs.length<=cs.size ->
 (∀j,j<cs.size->w.frozen? ⟨c,j,none⟩=false)->(∀v∈vs,v.oneCell'=true) ->
 (storeCells ⟨c,o,none⟩ vs i).run P w = .ok () (w.dY c (.cells (ow cs.toList (o+i) vs).toArray e fr))
 | [],i,w,cs,h,_,_,_=>by
  simp only[storeCells,cZ];have:ow cs.toList (o+i) []=cs.toList:=by simp[ow]
  rw[this,dg,Rm h]
 | v::vs,i,w,cs,h,hl,hf,hv=>by
  simp only[d8]at hl;simp only[storeCells,bA,Addr.iP];have hlt:o+i<cs.size:=by omega
  rw[run_store P w _ v .plain bc,Rj h];rw[show cs[o+i]? = some cs[o+i] from by simp];simp only[hf _ hlt,ce,if_false,bj];rw[Rk h];have hc:=(cD.1 h).1;have hf':∀j,j<cs.size->(w.dY c (.cells (cs.setIfInBounds (o+i) v) e fr)).frozen? ⟨c,j,none⟩=false:=(by grind[Hs]);rw[Ht vs (i+1) _ (cs.setIfInBounds (o+i) v) (oh hc) bc bc bc];rw[Rl];have e1:(ow (cs.setIfInBounds (o+i) v).toList (o+(i+1)) vs)=ow cs.toList (o+i) (v::vs):=by
   rw[Hn ac,Array.toList_setIfInBounds];rfl
  rw[e1]
theorem mA (m:Mem P gl ρ h w){b:Nat}{l:List AV}{e:TypeId}(hb:h.at b=some (.cells l e)) :
 h[b]? = some (some (.cells l e))/\BR P gl ρ w b (.cells l e):=by
 have:h[b]? = some (some (.cells l e)):=by
  unfold ab.at at hb;cases hq:h[b]? with
  | none=>grind
  | some q=>grind
 exact⟨this,m.dP b _ this⟩
theorem qz {b:Nat}{o:bV}(hb:h.at b=some o):h[b]? = some (some o):=by
 unfold ab.at at hb;grind
theorem sD (m:Mem P gl ρ h w){b:Nat}{l:List AV}{e:TypeId}(hb:h.at b=some (.cells l e)){c d:Nat}(hρ:ρ b = .live c d){off:Nat}{new:List AV}{nv:List Value}(hn:VL ρ w new nv)
 (hoff:off<=l.length) (hlen:∀cs e' fr,w.heap[c]? = some (.cells cs e' fr)->off+d+new.length<=cs.size) (hone:new.all dx=true) :
 ∃w',(storeCells ⟨c,off+d,none⟩ nv).run P w = .ok () w'/\Mem P gl ρ (h.put b (some (.cells (overwrite l off new) e))) w'/\Ext h (h.put b (some (.cells (overwrite l off new) e))) ρ ρ w w':=by
 obtain⟨h0,hbr⟩:=mA m hb;rcases hbr with ⟨c',d',cs,fr,h1,h2,h3,h4,h5⟩|⟨h1,_⟩
 . rw[hρ]at h1;cases h1;have hone':∀v∈nv,v.oneCell'=true:=by
    intro v hv;obtain⟨i,hi,rfl⟩:=List.mem_iff_getElem.1 hv;have hi':i<new.length:=by rw[hn.length];exact hi
    have ho:dx new[i]=true:=bc;exact Ri (hn.2 i new[i] nv[i] (cC hi') (cC hi)) ho
   have hlen':off+d+nv.length<=cs.size:=by rw[←hn.length];exact hlen cs e fr h2
   have hrun:=Ht (P:=P) (c:=c) (o:=off+d) (e:=e) (fr:=fr) nv 0 w cs h2 ac h4 hone';simp only[Nat.add_zero]at hrun;have hsz:(ow cs.toList (off+d) nv).toArray.size=cs.size:=by
    have:=QX (m:=cs.toList) (new:=nv) (off:=off+d) ac;simpa using this
   have hO:∀cs0 e0 fr0,w.heap[c]? = some (.cells cs0 e0 fr0)->∃cs' fr',Obj.cells (ow cs.toList (off+d) nv).toArray e fr = .cells cs' e0 fr'/\cs'.size=cs0.size:=by
    intro cs0 e0 fr0 hq;rw[h2]at hq;cases hq;exact⟨_,_,rfl,hsz⟩
   have x:=Ext.write m h0 hρ (some (.cells (overwrite l off new) e)) (.cells (ow cs.toList (off+d) nv).toArray e fr) hO;refine⟨_,hrun,?_,x⟩;refine Mem.write m h0 hρ _ _ hO ?_;intro o' ho;cases ho;have hc:=m.bound _ _ _ hρ;have hle:Fits P e d (overwrite l off new).length cs.size:=by
    have h9:=hn.length;have AO:=h3.1;refine⟨by simp[overwrite];omega,fun he=>?_⟩;have AP:=h3.2 he;refine⟨AP.1,?_⟩;simp[overwrite];omega
   refine .inl ⟨c,d,_,fr,hρ,oh hc,bc,fun i hi=>by grind[Hs],fun i x' y hx hy=>?_⟩;refine V.mono x ?_;have hy':(ow cs.toList (off+d) nv)[i+d]? = some y:=by simpa using hy
   unfold overwrite at hx;unfold ow at hy';have hnl:=hn.length;simp only[ip,fu,d7,c7,fY]at hx hy';have t1:min off l.length=off:=by omega
   have t2:min (off+d) cs.toList.length=off+d:=by simp;omega
   rw[t1]at hx;rw[t2]at hy';by_cases k1:i<off
   . grind
   . by_cases k2:i<off+new.length
     . rw[if_pos ac,if_neg k1]at hx;rw[if_pos ac,if_neg ac]at hy';rw[show i+d-(off+d)=i-off from by omega]at hy';exact hn.2 _ x' y hx hy'
     grind
 grind
end Go.Ab
namespace Go.Ab
variable {P:Program} {gl:Nat->Option AV} {ρ:aW} {w:World} {h:ab}
theorem run_loadCells {c o:Nat}{g:Nat->Value}{l:List AV}(hr:∀(i:Nat) y,l[i]? = some y->w.cell? ⟨c,o+i,none⟩=some (g i)/\V ρ w y (g i)){k:Nat}(hk:k<=l.length) :
 ∃cs:List Value,(loadCells ⟨c,o,none⟩ k).run P w = .ok cs.toArray w/\VL ρ w (l.take k) cs:=by
 have hrun:=run_loadCellsFrom (P:=P) (w:=w) (c:=c) (o:=o) (g:=g) k 0 #[] (fun j _ hj=>by
  have hj':j<l.length:=by omega
  simp_all)
 refine⟨(f7 0 k).map g,by simpa[loadCells] using hrun,bc,fun j x y hx hy=>?_⟩;grind
theorem Ro (m:Mem P gl ρ h w){b:Nat}{l:List AV}{e:TypeId}(hb:h.at b=some (.cells l e)){c d:Nat}(hρ:ρ b = .live c d)(off:Nat) :
 ∃g:Nat->Value,∀(i:Nat) y,(l.drop off)[i]? = some y->w.cell? ⟨c,off+d+i,none⟩=some (g i)/\V ρ w y (g i):=by
 have hx:V ρ w (.ptr b off) (.pointer (some ⟨c,off+d,none⟩)):=.ptr off hρ;have hr:gr h (.ptr b off)=some (l.drop off):=by simp[gr,hb]
 obtain⟨c',o',g,he,hg⟩:=readable m hx hr;cases he;exact⟨g,hg⟩
theorem Hu:∀(s:List UInt8),VL ρ w (s.map fun c=>AV.int .u8 c.toNat) (s.map fun c=>jj .u8 c.toNat)
 | []=>.nil
 | _::s=>.cons (.int _ _) (Hu s)
theorem mW (m:Mem P gl ρ h w){x:AV}{x':Value}(hx:V ρ w x x'){l:List AV}{n:Nat}(hs:gY h x=some (l,n)){size:Nat}(hl:l.length=n*size) :
 (Builtin.lenOf x').run P w = .ok n w/\∀k,k<=n->∃cs:List Value,(Builtin.firstCells size k x').run P w = .ok cs.toArray w/\VL ρ w (l.take (k*size)) cs:=by
 cases x <;> simp only[gY,reduceCtorEq,ci.injEq,jt.injEq]at hs
 case str s=>
  obtain⟨rfl,rfl⟩:=hs;obtain rfl:=hx.kH;by_cases hs0:s=[]
  . subst hs0;exact⟨rfl,fun k hk=>⟨[],by simp only[Builtin.firstCells,cZ];simp,by simpa using VL.nil⟩⟩
  obtain rfl:size=1:=by
   have h1:0<s.length:=bc;have h2:s.length*1=s.length*size:=by simpa using hl
   exact(Nat.eq_of_mul_eq_mul_left h1 h2).symm
  refine⟨by rfl,fun k hk=>⟨(s.take k).map fun c=>jj .u8 c.toNat,?_,?_⟩⟩
  . simp only[Builtin.firstCells,cZ]<;>simp_all
  . rw[je,←List.map_take];exact Hu _
 case ah=>
  obtain⟨rfl,rfl⟩:=hs;cases hx;exact⟨rfl,fun k _=>⟨[],rfl,by simpa using VL.nil⟩⟩
 case vs l0 len cap=>
  obtain⟨rfl,rfl⟩:=hs;cases hx with
  | vs c o g hf hlc hcap hc hg=>
   refine⟨rfl,fun k hk=>?_⟩;have hk':k*size<=l0.length:=by rw[hl];exact cT _ hk
   exact run_loadCells (P:=P) (fun i y hy=>⟨hc i (br.1 hy).1,hg i y hy⟩) hk'
  | fB hcap=>exact⟨rfl,fun k _=>⟨[],rfl,by simpa using VL.nil⟩⟩
  | gA a hcap=>exact⟨rfl,fun k hk=>⟨[],by rw[Nat.le_zero.1 hk];(simp only[Builtin.firstCells,loadCells,g9];rfl),by simpa using VL.nil⟩⟩
 case sl b off len esz cap=>
  split at hs
  . rename_i l0 e hb;simp only[be,jt.injEq]at hs;obtain⟨r,hcut,rfl,rfl⟩:=hs;unfold cut at hcut;simp only at hcut;split at hcut
    . rename_i hlen;cases hcut;obtain⟨h0,hbr⟩:=mA m hb;have hln:len*esz=len*size:=by rw[←hlen,hl]
      cases hx with
      | @sl _ c d _ _ _ capC _ hρ hlc hcap hs=>
       refine⟨rfl,fun k hk=>?_⟩;obtain⟨g,hg⟩:=Ro m hb hρ off;have hk':k*size<=(l0.drop off).length:=by
        have:(iq (len*esz) (gT off l0)).length<=(l0.drop off).length:=by rw[d7];omega
        have h3:k*size<=len*size:=cT _ hk;omega
       obtain⟨cs,h1,h2⟩:=run_loadCells (P:=P) hg hk';refine⟨cs,h1,?_⟩;grind[Nat.min_eq_left,cT]
      | gO hρ=>exact⟨rfl,fun k _=>⟨[],rfl,by grind[VL.nil]⟩⟩
      | fQ _ _ hρ _ _=>rcases hbr.live with ⟨c,d,hl'⟩|hl'|hl' <;> (rw[hρ]at hl';cases hl')
      | gw hρ=>rcases hbr.live with ⟨c,d,hl'⟩|hl'|hl' <;> (rw[hρ]at hl';cases hl')
      | gP a hρ=>rcases hbr.live with ⟨c,d,hl'⟩|hl'|hl' <;> (rw[hρ]at hl';cases hl')
    grind
  . split at hs
    . rename_i hn;subst hn;cases hs;cases hx with
      | sl hρ hlc hcap hs=>exact⟨rfl,fun k hk=>run_loadCells (P:=P) (g:=fun _=>.bool false) (l:=[]) ax bc⟩
      | gO hρ=>exact⟨rfl,fun k _=>⟨[],rfl,by simpa using VL.nil⟩⟩
      | fQ _ _ hρ _ _=>exact⟨rfl,fun k hk=>run_loadCells (P:=P) (g:=fun _=>.bool false) (l:=[]) ax bc⟩
      | gw hρ=>exact⟨rfl,fun k _=>⟨[],rfl,by simpa using VL.nil⟩⟩
      | gP a hρ=>exact⟨rfl,fun k hk=>⟨[],by rw[Nat.le_zero.1 hk];(simp only[Builtin.firstCells,loadCells,g9];rfl),by simpa using VL.nil⟩⟩
    grind
theorem Hv (n:Nat):∀(k c:Nat),256<=c->c<=2*n->Builtin.growBy n k c<=2*n
 | 0,c,_,h=>h
 | k+1,c,h0,h=>by
  simp only[Builtin.growBy];split
  . exact h
  . exact Hv n k _ ac ac
theorem Rp {n c:Nat}(h:c<n):Builtin.nextslicecap n c<=2*n:=by
 unfold Builtin.nextslicecap;grind[Hv]
theorem Rq (z:Array Value)(n:Nat):(Builtin.zeroCells z n).size=n*z.size:=by simp[Builtin.zeroCells]
structure AQ (P:Program)(t u elem:TypeId)(i:TypeInfo)(z:Value):Prop where
 ht:P.underlying t=some (.slice elem)
 hu:(∃e,P.underlying u=some (.slice e))\/P.underlying u=some .string
 hi:P.info? elem=some i
 hz:i.zero=some z
 hs:z.cells.size=i.size
theorem AR {t u ty elem:TypeId}{i:TypeInfo}{z:Value}(ht:AQ P t u elem i z){base:Option Addr}{len capC n:Nat}{y':Value}{new:Array Value}{w':World}
 (hn:(Builtin.lenOf y').run P w = .ok n w) (hf:(Builtin.firstCells i.size n y').run P w = .ok new w) (hle:len+n<=capC)
 (hs:(match base with|some a=>storeCells (a.add (len*i.size)) new.toList|none=>pure ():Sem Unit).run P w = .ok () w') :
 (Builtin.append_ #[t,u] ty #[.slice base len capC,y']).run P w = .ok (.slice base (len+n) capC) w':=by
 obtain⟨h1,h2,h3,h4,h5⟩:=ht;rcases h2 with ⟨e,h2⟩|h2;all_goals
  cases base with
  | none=>
   simp only[cZ,Result.ok.injEq,true_and]at hs;subst hs;simp[Builtin.append_,cE h1,cE h2,sizeOf,typeInfo,h3,hn,hf,hle]
  | some a=>
   simp only at hs;simp[Builtin.append_,cE h1,cE h2,sizeOf,typeInfo,h3,hn,hf,hle,hs]
theorem Rr {t u ty elem:TypeId}{i:TypeInfo}{z:Value}(ht:AQ P t u elem i z){base:Option Addr}{len capC n:Nat}{y':Value}{di new:Array Value}
 (hn:(Builtin.lenOf y').run P w = .ok n w) (hlt:capC<len+n) (hb:0<i.bytes) (hr:(len+n)*i.bytes<=fa)
 (ho:(Builtin.firstCells i.size len (.slice base len capC)).run P { w with drawn:=w.drawn+1 } = .ok di { w with drawn:=w.drawn+1 })
 (hf:(Builtin.firstCells i.size n y').run P { w with drawn:=w.drawn+1 } = .ok new { w with drawn:=w.drawn+1 }) :
 ∃cap,len+n<=cap/\(Builtin.append_ #[t,u] ty #[.slice base len capC,y']).run P w =
  .ok (.slice (some ⟨w.heap.size,0,none⟩) (len+n) cap) { w with drawn:=w.drawn+1,heap:=w.heap.push (.cells (di++new++Builtin.zeroCells z.cells (cap-(len+n))) elem) }:=by
 obtain⟨h1,h2,h3,h4,h5⟩:=ht;have hle:¬(len+n<=capC):=by omega
 have hroom:fa=70368744177664:=by decide
 have hN:len+n<=fa:=i5 (Nat.le_mul_of_pos_right _ hb) hr;have h48:¬(281474976710656<Builtin.nextslicecap (len+n) capC*i.bytes):=by
  have:=cT i.bytes (Rp hlt);rw[Nat.mul_assoc]at this;omega
 have hb':i.bytes≠0:=by omega
 refine⟨(Question.appendCap (len+n) capC elem).cut (w.tape w.drawn (.appendCap (len+n) capC elem)),by simp[Question.cut],?_⟩;have ho':(Builtin.firstCells i.size len (.slice base len capC)).run P w.drew = .ok di w.drew:=ho;have hf':(Builtin.firstCells i.size n y').run P w.drew = .ok new w.drew:=hf;rcases h2 with ⟨e,h2⟩|h2;all_goals
  simp[Builtin.append_,cE h1,cE h2,sizeOf,typeInfo,zeroValue,h3,h4,hn,hle,h48,hb',Question.forced,newRow,ho',hf'];rfl
theorem VL.Rs {l:List AV}{m m':List Value}(h:VL ρ w l (m.take l.length)):VL ρ w l ((m++m').take l.length):=by
 rw[List.take_append_of_le_length]
 . exact h
 . have:=h.length<;>grind
theorem Rt {h0:List (Option bV)}{n:Nat}(hn:h0.length=n)(x y:Option bV):ab.put (h0++[x]) n y=h0++[y]:=by
 subst hn;unfold ab.put;simp
theorem Ru (m:Mem P gl ρ h w){t u ty elem:TypeId}{i:TypeInfo}{z:Value}(ht:AQ P t u elem i z){x y:AV}{x' y':Value}(hx:V ρ w x x')(hy:V ρ w y y')
 (hne:jY P elem=false) {r:HR} (ha:mq elem i.size i.bytes h x y=some r) :
 ∃v' w',(Builtin.append_ #[t,u] ty #[x',y']).run P w = .ok v' w'/\fE P gl ρ h w r v' w':=by
 unfold mq at ha;split at ha
 . cases ha
 . rename_i new n hsc;split at ha
   . rename_i hcond;obtain⟨hnl,hb,hone⟩:=hcond;obtain⟨hlen,hfirst⟩:=mW m hy hsc hnl;obtain⟨hlen',hfirst'⟩:=mW (m.drew (w.drawn+1)) (hy.mono (Ext.drew h ρ w _)) hsc hnl;obtain⟨nv,hf,cN⟩:=hfirst n (b9 _);obtain⟨nv',hf',hnv'⟩:=hfirst' n (b9 _);rw[←hnl,d9]at cN hnv';have none_case:n=0->(∃base len capC,x' = .slice base len capC/\len<=capC)->r=⟨x,h,[]⟩->∃v' w',(Builtin.append_ #[t,u] ty #[x',y']).run P w = .ok v' w'/\fE P gl ρ h w r v' w':=by
      rintro rfl ⟨base,len,capC,rfl,hlc⟩ rfl;have hnv0:nv=[]:=by
       have:=cN.length;rw[hnl,g9]at this;exact bc
      subst hnv0;refine⟨_,w,AR ht hlen hf ac ?_,ρ,ac,m,Ext.refl _ _ _⟩;cases base <;> simp[storeCells]
     have new_case:∀(base:Option Addr) (len capC:Nat) (oldl:List AV) (di:List Value) (h0:ab) (ρ0:aW),x' = .slice base len capC->capC<len+n->(len+n)*i.bytes<=fa->oldl.length=len*i.size ->
      (Builtin.firstCells i.size len x').run P { w with drawn:=w.drawn+1 } = .ok di.toArray { w with drawn:=w.drawn+1 } ->
      Mem P gl ρ0 h0 { w with drawn:=w.drawn+1 }->Ext h h0 ρ ρ0 w { w with drawn:=w.drawn+1 }->VL ρ0 { w with drawn:=w.drawn+1 } oldl di->VL ρ0 { w with drawn:=w.drawn+1 } new nv'->h0.length=h.length ->
      ∀wr,r=⟨.sl h.length 0 (len+n) i.size none,h0++[some (.cells (oldl++new) elem)],wr⟩ ->
      ∃v' w',(Builtin.append_ #[t,u] ty #[x',y']).run P w = .ok v' w'/\fE P gl ρ h w r v' w':=by
      rintro base len capC oldl di h0 ρ0 rfl hlt hroom hol hfo m0 x0 ho hn0 hl0 wr rfl;obtain⟨cap,hcap,hrun⟩:=Rr (ty:=ty) ht hlen hlt hb hroom hfo hf';refine⟨_,_,hrun,?_⟩;have e1:=ho.length;have e2:=hn0.length;have hcs:(di.toArray++nv'.toArray++Builtin.zeroCells z.cells (cap-(len+n))).size=(oldl++new).length+(cap-(len+n))*i.size:=by
       rw[Array.size_append,Rq,ht.hs];simp;omega
      have hvl:VL ρ0 { w with drawn:=w.drawn+1 } (oldl++new) ((di.toArray++nv'.toArray++Builtin.zeroCells z.cells (cap-(len+n))).toList.take (oldl++new).length):=by
       have h9:=ho.append hn0;have e9:=h9.length;rw[show (di.toArray++nv'.toArray++Builtin.zeroCells z.cells (cap-(len+n))).toList=(di++nv')++(Builtin.zeroCells z.cells (cap-(len+n))).toList from by simp];refine VL.Rs ?_;rw[e9,d9];exact h9
      obtain⟨m1,x1⟩:=Hq m0 (l:=oldl++new) (cs:=di.toArray++nv'.toArray++Builtin.zeroCells z.cells (cap-(len+n))) elem hvl ac bc;rw[←hl0];refine⟨_,AM hcap ax ?_,m1,x0.trans x1⟩;rw[hcs,fu,hol,hnl,←ii,←ii];have:len+n+(cap-(len+n))=cap:=by omega
      rw[this];exact b9 _
     have md:=m.drew (w.drawn+1);have xd:=Ext.drew h ρ w (w.drawn+1);split at ha
     . -- nil
       cases hx;split at ha
       . simp_all
       . rename_i h0;split at ha
         . rename_i hroom;cases ha;exact new_case none 0 0 [] [] h ρ rfl ac bc ax rfl md xd VL.nil hnv' rfl [] ax
         grind
     . -- by its content
       rename_i l len cap;obtain⟨base,len',capC,rfl,hlc,hsp,hnil⟩:=lF hx trivial;obtain⟨rfl,hcap⟩:=sx hx;split at ha
       . simp_all
       . rename_i h0;split at ha
         . rename_i c;split at ha
           . rename_i hc;cases ha;obtain⟨h1,hroom,hll⟩:=hc;have hcc:=hcap c rfl;obtain⟨_,ho⟩:=mW md (hx.mono xd) (l:=l) (n:=len') (by rfl) hll;obtain⟨di,ho1,ho2⟩:=ho len' (b9 _)<;>grind
           grind
         grind
     . -- into a block of the call's own
       rename_i b off len e cap;obtain⟨base,len',capC,rfl,hlc,hsp,hnil⟩:=lF hx trivial;obtain⟨rfl,hcap⟩:=sw hx;split at ha
       . simp_all
       . rename_i h0;split at ha <;> try (cases ha;done)
         rename_i hc;obtain⟨he,hroom⟩:=hc;subst he;split at ha <;> try (cases ha;done)
         rename_i l el hat;obtain⟨hb0,hbr⟩:=mA m hat;have hρl:ρ b≠.dead:=fun hd=>by rcases hbr.live with ⟨_,_,hl'⟩|hl'|hl' <;> (rw[hd]at hl';cases hl')
         split at ha
         . -- the capacity is known
           rename_i c;have hcc:=hcap c rfl;split at ha
           . rename_i hle;split at ha
             . rename_i hin;cases ha;cases hx with
               | @sl _ cb d _ _ _ _ _ hρ _ _ hs=>
                obtain⟨cs,e',fr,h5,h6⟩:=hs;have hoff:off+len'*i.size<=l.length:=by
                 have:len'*i.size<=(len'+n)*i.size:=bc;omega
                obtain⟨w',hst,m1,x1⟩:=sD (off:=off+len'*i.size) m hat hρ cN hoff (fun cs0 e0 fr0 hq=>by
                 rw[h5]at hq;cases hq;rw[hnl];have:(len'+n)*i.size<=capC*i.size:=cT _ ac<;>grind) hone
                refine⟨_,w',AR ht hlen hf ac (by
                 grind[Addr.iP]),ρ,?_,m1,x1⟩
                obtain⟨cs',fr',h7,h8⟩:=x1.shape _ _ _ _ h5;exact .sl hρ ac hcap ⟨cs',e',fr',h7,ac⟩
               | fQ _ _ hρ _ _=>grind
               | gP a hρ=>omega
             grind
           . rename_i hgt;split at ha
             . rename_i old' hcut;cases ha;have hcut':=hcut;unfold cut at hcut';simp only at hcut';split at hcut'
               . rename_i hcl;cases hcut';obtain⟨_,ho⟩:=mW md (hx.mono xd) (l:=iq (len'*i.size) (gT off l)) (n:=len') (by simp[gY,hat,hcut]) hcl;obtain⟨di,ho1,ho2⟩:=ho len' (b9 _)<;>grind
               grind
             grind
         . -- the capacity is not known
           split at ha
           . rename_i hend;cases ha;obtain⟨hend,rfl⟩:=hend;have hcl:(iq (len'*i.size) (gT off l)).length=len'*i.size:=by simp;omega
             have hdrop:iq (len'*i.size) (gT off l)=gT off l:=List.take_of_length_le bc;by_cases hfit:len'+n<=capC
             . -- there is room
               cases hx with
               | @sl _ cb d _ _ _ _ _ hρ _ _ hs=>
                obtain⟨cs,e',fr,h5,h6⟩:=hs;have hroomc:off+d+(len'+n)*i.size<=cs.size:=by
                 have:(len'+n)*i.size<=capC*i.size:=cT _ hfit;omega
                have hbr':BR P gl ((ρ.fe b .dead).fe h.length (.live cb (off+d))) w h.length (.cells (l.drop off) el):=by
                 rcases hbr with ⟨c',d',cs',fr',g1,g2,g3,g4,g5⟩|⟨g1,g2⟩
                 . rw[hρ]at g1;cases g1;rw[h5]at g2;cases g2;refine .inl ⟨cb,off+d,cs,fr,aW.gQ _ _ _,h5,⟨bc,fun he=>by grind⟩,g4,fun j a v' ha hv=>?_⟩;refine(g5 (off+j) a v' bc bc).mono (Ext.move m hb0 hρ (some (.cells (l.drop off) el)) (off+d))
                 . grind
                have m1:=Mem.move m hb0 hρ (some (.cells (l.drop off) el)) (off+d) bc;have x1:=Ext.move m hb0 hρ (some (.cells (l.drop off) el)) (off+d);have hat':(h.set b none++[some (.cells (l.drop off) el)]:ab).at h.length=some (.cells (l.drop off) el):=by
                 unfold ab.at;rw[List.getElem?_append_right ax];simp
                have hρ':((ρ.fe b .dead).fe h.length (.live cb (off+d))) h.length = .live cb (off+d):=ax;obtain⟨w',hst,m2,x2⟩:=sD (off:=len'*i.size) m1 hat' hρ' (cN.mono x1) bc bc hone;have hh:(h.set b none++[some (.cells (l.drop off) el)]:ab).put h.length (some (.cells (overwrite (l.drop off) (len'*i.size) new) el))=h.put b none++[some (.cells (l.drop off++new) el)]:=by
                 have:overwrite (l.drop off) (len'*i.size) new=l.drop off++new:=by
                  unfold overwrite;have e2:(l.drop off).drop (len'*i.size+new.length)=[]:=(by simp_all);rw[hdrop,e2,jg]
                 rw[this];exact Rt ax _ _
                rw[hh]at m2 x2;refine⟨_,w',AR ht hlen hf hfit (by
                 grind[Addr.iP]),_,?_,m2,x1.trans x2⟩
                obtain⟨cs',fr',h7,h8⟩:=(x1.trans x2).shape _ _ _ _ h5;have:=V.sl (w:=w') (o:=0) (len:=len'+n) (esz:=i.size) (capC:=capC) (cap:=none) hρ' hfit ax ⟨cs',e',fr',h7,ac⟩;grind
               | gO hρ=>omega
               | fQ _ _ hρ _ _=>grind
               | gw hρ=>omega
             . have hsc':gY h (.sl b off len' i.size none)=some (iq (len'*i.size) (gT off l),len'):=by
                simp[gY,hat,cut];omega
               obtain⟨_,ho⟩:=mW md (hx.mono xd) hsc' hcl;obtain⟨di,ho1,ho2⟩:=ho len' (b9 _);rw[List.take_take,Nat.min_self,hdrop]at ho2;have m1:=md.forget hb0;have x1:=xd.trans (Ext.forget (w:={ w with drawn:=w.drawn+1 }) hb0 (fun c d hl=>m.bound b c d hl));exact new_case base len' capC _ di (h.set b none) _ rfl ac hroom bc ho1 m1 x1 (ho2.mono (Ext.forget (w:={ w with drawn:=w.drawn+1 }) hb0 (fun c d hl=>m.bound b c d hl))) (hnv'.mono (Ext.forget (w:={ w with drawn:=w.drawn+1 }) hb0 (fun c d hl=>m.bound b c d hl))) ax [b] rfl
           grind
     grind
   grind
end Go.Ab
namespace Go.Ab
variable {P:Program} {gl:Nat->Option AV} {ρ:aW} {w:World} {h:ab} {C:Cx} {s:St} {a:Act}
def cO (C:Cx)(e:Operand->Value)(o:Oper)(ρ:aW)(h:ab)(w:World)(r:HR):Prop:=
 ∃v' w',((execOp e o).run C.P w = .ok (.value v') w'\/((execOp e o).run C.P w = .ok .skip w'/\v'=undef))/\fE C.P C.gl ρ h w r v' w'
theorem cO.val {o:Oper}{r:HR}{v':Value}{w':World}(h1:(execOp a.eval o).run C.P w = .ok (.value v') w')(h2:fE C.P C.gl ρ h w r v' w'):cO C a.eval o ρ h w r:=⟨v',w',.inl h1,h2⟩
theorem cO.skip {o:Oper}{r:HR}{w':World}(h1:(execOp a.eval o).run C.P w = .ok .skip w')(h2:fE C.P C.gl ρ h w r undef w'):cO C a.eval o ρ h w r:=⟨undef,w',.inr ⟨h1,rfl⟩,h2⟩
theorem jd (m:Mem P gl ρ h w){x:AV}{v':Value}(hv:V ρ w x v'):fE P gl ρ h w ⟨x,h,[]⟩ v' w:=⟨ρ,hv,m,Ext.refl _ _ _⟩
theorem vF (m:Mem P gl ρ h w){l:List AV}{cs:Array Value}(e:TypeId)(hl:VL ρ w l cs.toList){x:AV}{v':Value}(hv:V (ρ.fe h.length (.live w.heap.size 0)) { w with heap:=w.heap.push (.cells cs e) } x v') :
 fE P gl ρ h w ⟨x,h++[some (.cells l e)],[]⟩ v' { w with heap:=w.heap.push (.cells cs e) }:=
 let ⟨m1,x1⟩:=Rh m e hl
 ⟨_,hv,m1,x1⟩
theorem AS {z:List AV}{zv:Array Value}(hz:VL ρ w z zv.toList):∀n,VL ρ w (iE z n) ((du (n*zv.size)).map (zv[· % zv.size]!)).toList:=by
 intro n;have key:∀n,((du (n*zv.size)).map (zv[· % zv.size]!)).toList=(List.replicate n zv.toList).flatten:=by
  intro n;by_cases h0:zv.size=0
  . simp_all
  . induction n with
    | zero=>simp
    | succ n ih=>
     rw[List.replicate_succ',List.flatten_append,←ih];simp only[dz,Array.toList_range];rw[Nat.succ_mul,List.range_add,List.map_append];congr 1;simp only[List.map_map,i7,List.flatten_nil,jg];apply List.ext_getElem
     . simp
     . intro i h1 h2;simp at h1;simp[Nat.add_comm,Nat.mod_eq_of_lt h1,h1]
 rw[key];induction n with
 | zero=>exact .nil
 | succ n ih=>
  simp only[iE,List.replicate_succ,i7];exact hz.append ih
theorem AT (z:List AV):∀n,(iE z n).length=n*z.length
 | 0=>by simp[iE]
 | n+1=>by simp[iE,AT z n,Nat.succ_mul];omega
theorem mX {t e:TypeId}{n b:Nat}(h:jI P t=some (e,n,b)):∃i,P.underlying t=some (.slice e)/\P.info? e=some i/\i.size=n/\i.bytes=b:=by
 unfold jI at h;grind
theorem sE {e:TypeId}{z:List AV}(h:(zeroOf P e).bind AV.cells=some z):∃(i:TypeInfo) (v:Value),P.info? e=some i/\i.zero=some v/\(∀(ρ:aW) (w:World),VL ρ w z v.cells.toList)/\∀w:World,(zeroValue e).run P w = .ok v w:=by
 simp only[bZ]at h;obtain⟨u,h1,h2⟩:=h;unfold zeroOf at h1;split at h1
 . rename_i i hi;split at h1
   . rename_i v hv;exact⟨i,v,hi,hv,fun ρ w=>qs (ss 5 v u h1) h2,fun w=>by simp[zeroValue,vz hi,hv]⟩
   grind
 grind
theorem Rv (r:Rel C ρ s a w){t elem:TypeId}{n bb len:Nat}{ps:Array (Nat×Operand)}{z:List AV}{cps:List (Nat×Nat×aZ)}(he:jI C.P t=some (elem,n,bb))(hz:(zeroOf C.P elem).bind AV.cells=some z)
 (hc:lv C (fun j=>some (j*n,n)) ps.toList=some cps) (hn0:0<n) (hzn:z.length=n) (hroom:len*n<=2^24) {vs:List (Nat×Nat×AV)} (hv:s.parts cps=some vs) {l:List AV} (hf:mj (iE z len) vs=some l) (hll:l.length=len*n)
 {o:Oper} (ho:o.op = .buildSlice t len ps):cO C a.eval o ρ s.hp w ⟨.sl s.hp.length 0 len n (some len),s.hp++[some (.cells l elem)],[]⟩:=by
 obtain⟨i,hu,hi,rfl,rfl⟩:=mX he;obtain⟨i',zv,hi',hzv,hzl,hzrun⟩:=sE hz;rw[hi]at hi';cases hi';have hzs:zv.cells.size=i.size:=by rw[←hzn,(hzl ρ w).toList]
 have hrep:=AS (hzl ρ w) len;obtain⟨e1,e2⟩:=vD r hc hv;obtain⟨m',h1,h2⟩:=vC (place:=fun j=>some (j*i.size,i.size)) vs _ _ _ l e1 e2 hrep hf;have hms:m'.length=len*i.size:=by rw[←h2.length,hll]
 refine cO.val (v':=.slice (some ⟨w.heap.size,0,none⟩) len len) (w':={ w with heap:=w.heap.push (.cells m'.toArray elem) }) ?_ (vF r.mem elem ac (AM (b9 _) ax (by simp[hms])));obtain⟨dst,op,ty,pos,af,gd⟩:=o;simp only at ho;subst ho;have hroom':¬(16777216<len*i.size):=by omega
 have hfill:Instr.fill (fun j=>some (j*i.size,i.size)) ((du (len*i.size)).map (zv.cells[· % zv.cells.size]!)) (ps.map fun p=>(p.1,a.eval p.2)).toList=some m'.toArray:=by
  rw[dz];rw[hzs]at h1;rw[hzs];have e3:((du (len*i.size)).map (zv.cells[· % i.size]!)).toList.toArray=(du (len*i.size)).map (zv.cells[· % i.size]!):=dg;rw[e3]at h1;exact h1
 have hr0:(du 0:Array Nat) = #[]:=rfl;rw[dz]at hfill;by_cases hl0:len*i.size=0
 . have hfill0:Instr.fill (fun j=>some (j*i.size,i.size)) #[] (List.map (fun p=>(p.1,a.eval p.2)) ps.toList)=some m'.toArray:=by
    rw[hl0,hr0]at hfill;simpa using hfill
   simp only[execOp,Instr.buildSlice,bA,cE hu,bj,iO hi,hl0,hr0];simp[hfill0,newRow]
 . simp only[execOp,Instr.buildSlice,bA,cE hu,bj,iO hi];have hl00:¬(len=0\/i.size=0):=by rwa [←Nat.mul_eq_zero]
   simp[hroom',hzrun,hfill,newRow]<;>grind
theorem Rw (r:Rel C ρ s a w){t elem:TypeId}{n bb:Nat}{lo co:Operand}{z:List AV}(he:jI C.P t=some (elem,n,bb))(hz:(zeroOf C.P elem).bind AV.cells=some z)(hzn:z.length=n)(hn0:0<n)
 {k k':IntKind} {x y:Int} (hl:a.eval lo = .int k x) (hc:a.eval co = .int k' y) (h0:0<=x) (h1:x<=y) (h2:y.toNat*bb<=fa) (h3:y<=2^46) {o:Oper} (ho:o.op = .makeSlice t lo co) :
 cO C a.eval o ρ s.hp w ⟨.sl s.hp.length 0 x.toNat n (some y.toNat),s.hp++[some (.cells (iE z y.toNat) elem)],[]⟩:=by
 obtain⟨i,hu,hi,rfl,rfl⟩:=mX he;obtain⟨i',zv,hi',hzv,hzl,hzrun⟩:=sE hz;rw[hi]at hi';cases hi';have hzs:zv.cells.size=i.size:=by rw[←hzn,(hzl ρ w).toList]
 have hrep:=AS (hzl ρ w) y.toNat;have hlen:=AT z y.toNat;refine cO.val (v':=.slice (some ⟨w.heap.size,0,none⟩) x.toNat y.toNat) (w':={ w with heap:=w.heap.push (.cells ((du (y.toNat*zv.cells.size)).map (zv.cells[· % zv.cells.size]!)) elem) }) ?_
  (vF r.mem elem hrep (by grind[AM]))
 obtain⟨dst,op,ty,pos,af,gd⟩:=o;simp only at ho;subst ho;have hroom:fa=70368744177664:=by decide
 have w1:IntKind.i64.wrap x=x:=IntWalk.i64_in x ac;have w2:IntKind.i64.wrap y=y:=IntWalk.i64_in y ac;have hy:(y.toNat:Int)=y:=by omega
 have hb:¬((281474976710656:Int)<(i.bytes:Int)*y):=by
  have:((y.toNat*i.bytes:Nat):Int)<=70368744177664:=by omega
  rw[Int.natCast_mul,hy,Int.mul_comm]at this;omega
 have hcond:¬(((y<0\/(281474976710656:Int)<(i.bytes:Int)*y)\/x<0)\/y<x):=by omega
 have hr0:(du 0:Array Nat) = #[]:=rfl;simp[execOp,Instr.makeSlice,cE hu,hl,hc,asInt,qq,vz hi,iO hi,w1,w2,hcond,newRow,hzrun,hzs]<;>grind
theorem Rx (r:Rel C ρ s a w){e:TypeId}{xo:Operand}{x:AV}{l:List AV}(hx:V ρ w x (a.eval xo))(hl:x.cells=some l){o:Oper}(ho:o.op = .box e xo) :
 cO C a.eval o ρ s.hp w ⟨.ptr s.hp.length 0,s.hp++[some (.cells l e)],[]⟩:=by
 refine cO.val (v':=.pointer (some ⟨w.heap.size,0,none⟩)) (w':={ w with heap:=w.heap.push (.cells (a.eval xo).cells e) }) ?_ (vF r.mem e (qs hx hl) AN);obtain⟨dst,op,ty,pos,af,gd⟩:=o;simp only at ho;subst ho;rfl
theorem Ry (r:Rel C ρ s a w){e:TypeId}{z:List AV}(hz:(zeroOf C.P e).bind AV.cells=some z){o:Oper}(ho:o.op = .alloc e) :
 cO C a.eval o ρ s.hp w ⟨.ptr s.hp.length 0,s.hp++[some (.cells z e)],[]⟩:=by
 obtain⟨i,zv,hi,hzv,hzl,hzrun⟩:=sE hz;refine cO.val (v':=.pointer (some ⟨w.heap.size,0,none⟩)) (w':={ w with heap:=w.heap.push (.cells zv.cells e) }) ?_ (vF r.mem e (hzl ρ w) AN);obtain⟨dst,op,ty,pos,af,gd⟩:=o;simp only at ho;subst ho;simp[execOp,Instr.alloc,hzrun,newVar,newRow]
theorem Rz (r:Rel C ρ s a w){t:TypeId}{n:Nat}{ag:Bool}{xo:Operand}{x:AV}(hs:shapeOf C.P t=some (n,ag))(hx:V ρ w x (a.eval xo)){l:List AV}(hl:gr s.hp x=some l){v:AV}(hv:partOf l 0 n ag=some v)
 {o:Oper} (ho:o.op = .load t xo):cO C a.eval o ρ s.hp w ⟨v,s.hp,[]⟩:=by
 obtain⟨c,off,g,he,hg⟩:=readable r.mem hx hl;obtain⟨v',h1,h2⟩:=Hr hs hg hv;refine cO.val (v':=v') (w':=w) ?_ (jd r.mem h2);obtain⟨dst,op,ty,pos,af,gd⟩:=o;simp only at ho;subst ho;simp[execOp,Instr.loadAt,he,Instr.sureAddr,h1]
theorem RA (r:Rel C ρ s a w){t:TypeId}{n:Nat}{ag:Bool}{xo yo:Operand}{b off:Nat}{y:AV}{new l:List AV}{el:TypeId}(hs:shapeOf C.P t=some (n,ag))(hx:V ρ w (.ptr b off) (a.eval xo))(hy:V ρ w y (a.eval yo))
 (hn:y.cells=some new) (hb:s.hp.at b=some (.cells l el)) (hnn:new.length=n) (hin:off+n<=l.length) (hone:new.all dx=true) {o:Oper} (ho:o.op = .store t xo yo) :
 cO C a.eval o ρ s.hp w ⟨cM,s.hp.put b (some (.cells (overwrite l off new) el)),[b]⟩:=by
 obtain⟨i,d0,hi,hd0,rfl,rfl⟩:=su hs;obtain⟨h0,hbr⟩:=mA r.mem hb;have hyv:=qs hy hn;generalize hxv:a.eval xo=xv at hx;cases hx with
 | ptr _ hρ=>
  rename_i c d;obtain⟨w',h1,m1,x1⟩:=sD (off:=off) r.mem hb hρ hyv ac (fun cs e fr hq=>by
   rcases hbr with ⟨c',d',cs',fr',g1,g2,g3,_⟩|⟨g1,_⟩
   . rw[hρ]at g1;cases g1;rw[hq]at g2;cases g2;have:=g3.1;omega
   grind) hone
  refine cO.skip (w':=w') ?_ ⟨ρ,V.undef,m1,x1⟩;obtain⟨dst,op,ty,pos,af,gd⟩:=o;simp only at ho;subst ho;have hsz:(a.eval yo).cells.size=i.size:=by rw[←hyv.toList,hnn]
  simp[execOp,Instr.storeAt,hxv,Instr.sureAddr,storeVar,iO hi,hsz,h1]
 | fA _ _ _ hρ=>rcases hbr.live with ⟨_,_,hl'⟩|hl'|hl' <;> (rw[hρ]at hl';cases hl')
end Go.Ab
namespace Go.Ab
variable {t:TypeId}
variable {P:Program} {gl:Nat->Option AV} {ρ:aW} {w:World} {h:ab} {C:Cx} {s:St} {a:Act}
theorem bytes_beq (x y:List UInt8):((cP x.toArray) == (cP y.toArray))=(x == y):=by
 have e:∀x y:ByteArray,(x == y)=(x.data == y.data):=fun _ _=>rfl<;>grind
theorem mY {c:Nat}{o:Obj}(h:w.heap[c]? = some o)(ho:∀cs e fr,o≠.cells cs e fr):(getObj c).run P w = .ok o w:=by
 cases o <;> first|exact absurd rfl (ho _ _ _)|simp[getObj,Sem.run,h]
theorem ou {c:Nat}{o o':Obj}(h:w.heap[c]? = some o)(ho:∀cs e fr,o≠.cells cs e fr):(setObj c o').run P w = .ok () (w.dY c o'):=by
 cases o <;> first|exact absurd rfl (ho _ _ _)|simp[setObj,Sem.run,h,World.dY]
theorem AU (m:Mem P gl ρ h w){b:Nat}{es:List (AV×AV)}(hb:h.at b=some (.map es)):h[b]? = some (some (.map es))/\∃c ms clk,ρ b = .live c 0/\w.heap[c]? = some (.map ms clk)/\es.length=ms.size /\
      ∀(i:Nat) kx vx m,es[i]? = some (kx,vx)->ms[i]? = some m->V ρ w kx m.key/\V ρ w vx m.val:=
 ⟨qz hb,m.dP b _ (qz hb)⟩
def AW:iY->TypeDesc->Prop
 | .int,d=>∃k,d = .int k
 | .str,d=>d = .string
theorem Hw {k:iY}(hk:keyOf P t=some k):∃d,P.underlying t=some d/\AW k d:=by
 unfold keyOf at hk;split at hk
 . rename_i kk hu;cases hk;exact⟨_,hu,_,rfl⟩
 . rename_i hu;cases hk;exact⟨_,hu,rfl⟩
 grind
theorem vG {k:iY}(hk:keyOf P t=some k)(e:Bool)(v:Value):(Instr.checkKey e 10000 t v).run P w = .ok () w:=by
 obtain⟨d,hu,hd⟩:=Hw hk;unfold Instr.checkKey;rw[bA,cE hu,bj];cases k
 . obtain⟨kk,rfl⟩:=hd;simp
 . cases hd;simp
theorem RB {kt:iY}{d:TypeDesc}(hd:AW kt d){k kx:AV}(hk:kt.ok k=true){k' kx':Value}(h1:V ρ w k k')(h2:V ρ w kx kx'){r:Bool}(he:mn k kx=some r) :
 Instr.sameNow d k' kx'=some r/\(r=true->kx'=k'/\Instr.sameBits 10000 kx' k'=true):=by
 cases kt
 . obtain⟨kk,rfl⟩:=hd;cases k <;> simp only[iY.ok,ce]at hk;cases kx <;> simp only[mn,reduceCtorEq,Option.ite_none_right_eq_some,ci.injEq]at he;obtain⟨rfl,rfl⟩:=he;cases h1;cases h2;refine⟨by simp[Instr.sameNow],fun hr=>?_⟩;simp only[beq_iff_eq]at hr;subst hr;exact⟨rfl,by simp[Instr.sameBits]⟩
 . cases hd;cases k <;> simp only[iY.ok,ce]at hk;cases kx <;> simp only[mn,reduceCtorEq,ci.injEq]at he;subst he;cases h1;cases h2;refine⟨by simp only[Instr.sameNow,bytes_beq],fun hr=>?_⟩;simp only[beq_iff_eq]at hr;subst hr;exact⟨rfl,by simp only[Instr.sameBits,bytes_beq,beq_self_eq_true]⟩
def AX (ρ:aW)(w:World)(ms:List MapEntry)(k':Value)(i:Nat):Option (Nat×AV)->Option (Nat×Value)->Prop
 | none,none=>True
 | some (j,v),some (j',v')=>j=j'/\i<=j/\V ρ w v v'/\∃e,ms[j-i]? = some e/\e.key=k'/\Instr.sameBits 10000 e.key k'=true
 | _,_=>False
theorem Hx {kt:iY}{d:TypeDesc}(hd:AW kt d){k:AV}(hk:kt.ok k=true){k':Value}(h1:V ρ w k k') :
 ∀(es:List (AV×AV)) (ms:List MapEntry) (i:Nat) (r:Option (Nat×AV)),es.length=ms.length ->
  (∀(i:Nat) kx vx m,es[i]? = some (kx,vx)->ms[i]? = some m->V ρ w kx m.key/\V ρ w vx m.val)->jB k es i=some r ->
  ∃r',Instr.findNow d k' ms i=some r'/\AX ρ w ms k' i r r'
 | [],ms,i,r,hl,_,hf=>by
  cases ms with
  | nil=>simp only[jB,ci.injEq]at hf;subst hf;exact⟨none,rfl,trivial⟩
  | cons _ _=>simp at hl
 | (kx,vx)::es,ms,i,r,hl,hv,hf=>by
  cases ms with
  | nil=>simp at hl
  | cons m ms=>
   obtain⟨e1,e2⟩:=hv 0 kx vx m rfl rfl;simp only[jB]at hf;cases he:mn k kx with
   | none=>grind
   | some b=>
    obtain⟨g1,g2⟩:=RB hd hk h1 e1 he;cases b with
    | true=>
     simp only[he,ci.injEq]at hf;subst hf;exact⟨some (i,m.val),by simp[Instr.findNow,g1],rfl,b9 _,e2,m,ax,g2 rfl⟩
    | false=>
     simp only[he]at hf;obtain⟨r',h3,h4⟩:=Hx hd hk h1 es ms (i+1) r bc (fun i kx vx m hx hm=>hv (i+1) kx vx m bc bc) hf;refine⟨r',by simp[Instr.findNow,g1,h3],?_⟩;cases r with
     | none=>cases r' with
       | none=>trivial
       | some _=>exact h4
     | some q=>
      cases r' with
      | none=>exact h4
      | some q'=>
       obtain⟨a1,a2,a3,e,a4,a5⟩:=h4;refine⟨a1,ac,a3,e,?_,a5⟩<;>grind
theorem AY {kt:iY}(hk:keyOf P t=some kt){k:AV}(cw:kt.ok k=true){k':Value}(h1:V ρ w k k'){es:List (AV×AV)}{ms:List MapEntry}(hl:es.length=ms.length)
 (hv:∀(i:Nat) kx vx m,es[i]? = some (kx,vx)->ms[i]? = some m->V ρ w kx m.key/\V ρ w vx m.val) {r:Option (Nat×AV)} (hf:jB k es 0=some r) :
 ∃r',(Instr.findKey t k' ms).run P w = .ok r' w/\AX ρ w ms k' 0 r r':=by
 obtain⟨d,hu,hd⟩:=Hw hk;obtain⟨r',h2,h3⟩:=Hx hd cw h1 es ms 0 r hl hv hf;refine⟨r',?_,h3⟩;unfold Instr.findKey;simp[cE hu,h2]
def mZ (z:AV)(q:Option (Nat×AV)):AV:=match q with|some (_,v)=>v|none=>z
theorem RC (r:Rel C ρ s a w){t kt' et:TypeId}{kt:iY}{z:AV}{xo io:Operand}{ok:Bool}(hu:C.P.underlying t=some (.map kt' et))(hk:keyOf C.P kt'=some kt)(hz:zeroOf C.P et=some z)
 {m k:AV} (hm:V ρ w m (a.eval xo)) (hkv:V ρ w k (a.eval io)) (cw:kt.ok k=true) {es:List (AV×AV)} (hes:m = .ee/\es=[]\/∃b,m = .map b/\s.hp.at b=some (.map es))
 {q:Option (Nat×AV)} (hf:jB k es 0=some q) {o:Oper} (ho:o.op = .lookup t xo io ok) :
 cO C a.eval o ρ s.hp w ⟨if ok then .aw [mZ z q,.bool q.isSome] else mZ z q,s.hp,[]⟩:=by
 obtain⟨dst,op,ty,pos,af,gd⟩:=o;simp only at ho;subst ho;obtain⟨zv,hz1,hz2⟩:=vE (w:=w) (ρ:=ρ) hz;have hrun:∃v',(Instr.lookup t (a.eval xo) (a.eval io) ok).run C.P w = .ok v' w/\V ρ w (if ok then .aw [mZ z q,.bool q.isSome] else mZ z q) v':=by
  have tail:∀(q':Option (Nat×Value)) (ms:List MapEntry),AX ρ w ms (a.eval io) 0 q q'->∃v',((match q' with
   | some (_,v)=>do let p ←(pure (v,true):Sem (Value×Bool));pure (if ok then .tuple #[p.1,.bool p.2] else p.1)
   | none=>do let z ←zeroValue et;let p ←(pure (z,false):Sem (Value×Bool));pure (if ok then .tuple #[p.1,.bool p.2] else p.1):Sem Value)).run C.P w = .ok (if ok then .tuple #[v',.bool q.isSome] else v') w/\V ρ w (mZ z q) v':=by
   intro q' ms h2;cases q with
   | none=>
    cases q' with
    | some _=>exact h2.elim
    | none=>exact⟨zv,by simp[hz1],hz2⟩
   | some p=>
    cases q' with
    | none=>exact h2.elim
    | some p'=>exact⟨p'.2,ax,h2.2.2.1⟩
  have fin:∀(v':Value),V ρ w (mZ z q) v'->V ρ w (if ok then .aw [mZ z q,.bool q.isSome] else mZ z q) (if ok then .tuple #[v',.bool q.isSome] else v'):=by
   intro v' hv;cases ok
   . exact hv
   . exact V.jm (VL.cons hv (VL.cons (.bool _) .nil))
  unfold Instr.lookup;rcases hes with ⟨rfl,rfl⟩|⟨b,rfl,hb⟩
  . generalize hxv:a.eval xo=xv at hm;cases hm;obtain⟨q',h1,h2⟩:=AY (P:=C.P) (es:=[]) (ms:=[]) hk cw hkv rfl ax hf;obtain⟨v',t1,t2⟩:=tail q' _ h2;refine⟨_,?_,fin v' t2⟩;simp only[bA,cE hu,bj,cZ,vG hk,h1]<;>grind
  . obtain⟨_,c,ms,clk,g1,g2,g3,g4⟩:=AU r.mem hb;generalize hxv:a.eval xo=xv at hm;cases hm with
    | map hρ=>
     rw[hρ]at g1;cases g1;obtain⟨q',h1,h2⟩:=AY (P:=C.P) (ms:=ms.toList) hk cw hkv ac bc hf;obtain⟨v',t1,t2⟩:=tail q' _ h2;refine⟨_,?_,fin v' t2⟩;simp only[bA,cE hu,bj,cZ,vG hk,h1,mY g2 ax]<;>grind
    | jb _ hρ=>grind
 obtain⟨v',h3,h4⟩:=hrun;refine cO.val (v':=v') (w':=w) ?_ (jd r.mem h4);simp[execOp,h3]
def nc (es:List (AV×AV))(k v:AV)(q:Option (Nat×AV)):List (AV×AV):=match q with|some (j,_)=>es.set j (k,v)|none=>es++[(k,v)]
theorem vH (r:Rel C ρ s a w){t kt' et:TypeId}{kt:iY}{mo io xo:Operand}(hu:C.P.underlying t=some (.map kt' et))(hk:keyOf C.P kt'=some kt)
 {k v:AV} {b:Nat} (hm:V ρ w (.map b) (a.eval mo)) (hkv:V ρ w k (a.eval io)) (hv:V ρ w v (a.eval xo)) (cw:kt.ok k=true) {es:List (AV×AV)} (hb:s.hp.at b=some (.map es))
 {q:Option (Nat×AV)} (hf:jB k es 0=some q) {o:Oper} (ho:o.op = .mapUpdate t mo io xo\/o.op = .insert t mo io xo) :
 cO C a.eval o ρ s.hp w ⟨cM,s.hp.put b (some (.map (nc es k v q))),[b]⟩:=by
 obtain⟨h0,c,ms,clk,g1,g2,g3,g4⟩:=AU r.mem hb;have hrun:∃ms' clk',(Instr.mapUpdate t (a.eval mo) (a.eval io) (a.eval xo)).run C.P w = .ok () (w.dY c (.map ms' clk'))/\(nc es k v q).length=ms'.size /\
  ∀(i:Nat) kx vx m,(nc es k v q)[i]? = some (kx,vx)->ms'[i]? = some m->V ρ w kx m.key/\V ρ w vx m.val:=by
  unfold Instr.mapUpdate;generalize hxv:a.eval mo=xv at hm;cases hm with
  | map hρ=>
   rw[hρ]at g1;cases g1;obtain⟨q',h1,h2⟩:=AY (P:=C.P) (ms:=ms.toList) hk cw hkv ac bc hf;cases q with
   | none=>
    cases q' with
    | some _=>exact h2.elim
    | none=>
     refine⟨ms.push { key:=a.eval io,val:=a.eval xo,born:=clk },clk+1,?_,by simp[nc,g3],?_⟩
     . simp only[bA,cE hu,bj,vG hk,h1,mY g2 ax];grind[ou]
     . intro i kx vx m hx hm;simp only[nc]at hx<;>grind
   | some p=>
    cases q' with
    | none=>exact h2.elim
    | some p'=>
     obtain⟨j,pv⟩:=p;obtain⟨j',pv'⟩:=p';obtain⟨e1,_,_,e,e3,e4,e5⟩:=h2;have e1:j=j':=e1;subst e1;have e3:ms[j]? = some e:=by simpa using e3
     have hj:j<ms.size:=(cD.1 e3).1;refine⟨ms.modify j fun e=>{ e with key:=a.eval io,val:=a.eval xo },clk,?_,by simp[nc,g3],?_⟩
     . simp only[bA,cE hu,bj,vG hk,h1,mY g2 ax];simp only[e3,eL,Option.getD_some,Instr.keyThatStays,e5,if_true,cZ,bj];grind[ou]
     . intro i kx vx m hx hm;rw[Array.getElem?_modify]at hm;simp only[nc]at hx<;>grind
  | jb _ hρ=>grind
 obtain⟨ms',clk',h1,h2,h3⟩:=hrun;have hO:∀cs0 e0 fr0,w.heap[c]? = some (.cells cs0 e0 fr0)->∃cs' fr',Obj.map ms' clk' = .cells cs' e0 fr'/\cs'.size=cs0.size:=by
  intro _ _ _ hq;rw[g2]at hq;cases hq
 have x:=Ext.write r.mem h0 g1 (some (.map (nc es k v q))) (.map ms' clk') hO;refine cO.skip (w':=w.dY c (.map ms' clk')) ?_ ⟨ρ,V.undef,Mem.write r.mem h0 g1 _ _ hO ?_,x⟩
 . obtain⟨dst,op,ty,pos,af,gd⟩:=o;simp only at ho;rcases ho with rfl|rfl <;> simp[execOp,h1]
 . intro o' ho';cases ho';exact⟨c,ms',clk',g1,oh bc,h2,fun i kx vx m hx hm=>let ⟨a1,a2⟩:=h3 i kx vx m hx hm;⟨a1.mono x,a2.mono x⟩⟩
theorem RD (r:Rel C ρ s a w){t:TypeId}{o:Oper}(ho:o.op = .makeMap t none):cO C a.eval o ρ s.hp w ⟨.map s.hp.length,s.hp++[some (.map [])],[]⟩:=by
 have x:=Ext.alloc r.mem (some (.map [])) (.map #[] 0) (.live w.heap.size 0) ax;refine cO.val (v':=.map (some w.heap.size)) (w':={ w with heap:=w.heap.push (.map #[] 0) }) ?_ ⟨_,.map ax,Mem.alloc r.mem _ _ _ ax ?_,x⟩
 . obtain⟨dst,op,ty,pos,af,gd⟩:=o;simp only at ho;subst ho;rfl
 . intro o' ho';cases ho';exact⟨w.heap.size,#[],0,aW.gQ _ _ _,ax,rfl,ax⟩
theorem RE (r:Rel C ρ s a w){t:TypeId}{xo:Operand}(hu:C.P.underlying t=some .string){u:List UInt8}(hx:V ρ w (.str u) (a.eval xo)){o:Oper}(ho:o.op = .range t xo) :
 cO C a.eval o ρ s.hp w ⟨.ptr s.hp.length 0,s.hp++[some (.iter u 0)],[]⟩:=by
 have x:=Ext.alloc r.mem (some (.iter u 0)) (.stringIter ⟨u.toArray⟩ 0) (.live w.heap.size 0) ax;refine cO.val (v':=.pointer (some ⟨w.heap.size,0,none⟩)) (w':={ w with heap:=w.heap.push (.stringIter ⟨u.toArray⟩ 0) }) ?_ ⟨_,AN,Mem.alloc r.mem _ _ _ ax ?_,x⟩
 . obtain⟨dst,op,ty,pos,af,gd⟩:=o;simp only at ho;subst ho;simp[execOp,Instr.range,cE hu,hx.kH]
 . intro o' ho';cases ho';exact⟨w.heap.size,aW.gQ _ _ _,ax⟩
theorem RF (r:Rel C ρ s a w){xo:Operand}{b pos:Nat}{t:List UInt8}(hx:V ρ w (.ptr b 0) (a.eval xo))(hb:s.hp.at b=some (.iter t pos)){o:Oper}(ho:o.op = .next xo true) :
 cO C a.eval o ρ s.hp w (if pos<t.length then ⟨.aw [.bool true,.int .i64 pos,.int .i32 (Utf8.decode ⟨t.toArray⟩ pos).1],s.hp.put b (some (.iter t (pos+(Utf8.decode ⟨t.toArray⟩ pos).2))),[b]⟩ else ⟨.aw [.bool false],s.hp,[]⟩):=by
 have h0:=qz hb;obtain⟨c,g1,g2⟩:=r.mem.dP b _ h0;obtain⟨dst,op,ty,ps,af,gd⟩:=o;simp only at ho;subst ho;generalize hxv:a.eval xo=xv at hx;cases hx with
 | ptr _ hρ=>
  rw[hρ]at g1;cases g1;have hsz:(cP t.toArray).size=t.length:=by simp[de]
  by_cases hp:pos<t.length
  . rw[if_pos hp];have hO:∀cs0 e0 fr0,w.heap[c]? = some (.cells cs0 e0 fr0)->∃cs' fr',Obj.stringIter ⟨t.toArray⟩ (pos+(Utf8.decode ⟨t.toArray⟩ pos).2) = .cells cs' e0 fr'/\cs'.size=cs0.size:=by
     intro _ _ _ hq;rw[g2]at hq;cases hq
    have x:=Ext.write r.mem h0 hρ (some (.iter t (pos+(Utf8.decode ⟨t.toArray⟩ pos).2))) (.stringIter ⟨t.toArray⟩ (pos+(Utf8.decode ⟨t.toArray⟩ pos).2)) hO;refine cO.val (v':=.tuple #[.bool true,goInt pos,.int .i32 (Utf8.decode ⟨t.toArray⟩ pos).1]) (w':=w.dY c (.stringIter ⟨t.toArray⟩ (pos+(Utf8.decode ⟨t.toArray⟩ pos).2))) ?_
     ⟨ρ,V.jm (.cons (.bool _) (.cons (.int _ _) (.cons (.int _ _) .nil))),Mem.write r.mem h0 hρ _ _ hO ?_,x⟩
    . simp[execOp,Instr.next,hxv,mY g2,hsz,hp,ou g2]
    . intro o' ho';cases ho';exact⟨c,hρ,oh bc⟩
  . rw[if_neg hp];refine cO.val (v':=.tuple #[.bool false]) (w':=w) ?_ (jd r.mem (V.jm (.cons (.bool _) .nil)));simp[execOp,Instr.next,hxv,mY g2,hsz,hp]
 | fA _ _ _ hρ=>grind
end Go.Ab
namespace Go.Ab
variable {e:TypeId}
variable {P:Program} {gl:Nat->Option AV} {ρ:aW} {w:World} {h:ab} {C:Cx} {s:St} {a:Act}
theorem V.RG {x:AV}{x':Value}(hx:V ρ w x x'){l:List AV}{n:Nat}(hs:gY h x=some (l,n)):(∃s,x = .str s)\/∃a c,x' = .slice a n c:=by
 cases x <;> simp only[gY,reduceCtorEq,ci.injEq,jt.injEq]at hs
 case str s=>simp
 case ah=>obtain⟨rfl,rfl⟩:=hs;cases hx;simp
 case vs=>obtain⟨rfl,rfl⟩:=hs;cases hx <;> exact .inr ⟨_,_,rfl⟩
 case sl b off len esz cap=>
  split at hs
  . simp only[be,jt.injEq]at hs;obtain⟨_,_,rfl,rfl⟩:=hs;cases hx <;> exact .inr ⟨_,_,rfl⟩
  . split at hs
    . rename_i hn;subst hn;cases hs;cases hx <;> exact .inr ⟨_,_,rfl⟩
    grind
theorem AZ:∀(l:List AV) (t:List UInt8) (m:List Value),bytesOf l=some t->VL ρ w l m->∃ns:List Int,m=ns.map (jj .u8)/\t=ns.map fun n=>dc n.toNat
 | [],t,m,h,hv=>by
  simp only[bytesOf,ci.injEq]at h;subst h;exact⟨[],hv.kG,rfl⟩
 | x::l,t,m,h,hv=>by
  obtain⟨y,m',rfl,h1,h2⟩:=hv.cons_inv;cases x <;> first|(simp only[bytesOf,reduceCtorEq]at h;done)|skip
  rename_i k n;cases k <;> first|(simp only[bytesOf,reduceCtorEq]at h;done)|skip
  simp only[bytesOf]at h;split at h
  . rename_i t' ht;cases h;obtain⟨ns,rfl,rfl⟩:=AZ l t' m' ht h2;cases h1;exact⟨n::ns,rfl,rfl⟩
  . cases h
theorem fold_push (ns:List Int):∀r:ByteArray,ns.foldl (fun r n=>r.push (dc n.toNat)) r=⟨r.data++(ns.map fun n=>dc n.toNat).toArray⟩:=by
 induction ns<;>simp_all
theorem RH (r:Rel C ρ s a w){src dst e:TypeId}{xo:Operand}(hs:C.P.underlying src=some (.slice e))(hd:C.P.underlying dst=some .string)(he:C.P.underlying e=some (.int .u8))
 {x:AV} (hx:V ρ w x (a.eval xo)) (hns:∀t,x≠.str t) {l:List AV} {n:Nat} (hl:gY s.hp x=some (l,n)) (hln:l.length=n) {t:List UInt8} (ht:bytesOf l=some t)
 {o:Oper} (ho:o.op = .convert src dst xo):cO C a.eval o ρ s.hp w ⟨.str t,s.hp,[]⟩:=by
 obtain⟨d,op,ty,pos,af,gd⟩:=o;simp only at ho;subst ho;refine cO.val (v':=.string ⟨t.toArray⟩) (w':=w) ?_ (jd r.mem (.str t));obtain⟨_,hf⟩:=mW (size:=1) r.mem hx hl ac;obtain⟨cs,h1,h2⟩:=hf n (b9 _);rcases hx.RG hl with ⟨u,hu⟩|⟨ad,c,hx'⟩
 . grind
 . rw[hx']at h1;rw[je,←hln,d9]at h2;obtain⟨ns,rfl,rfl⟩:=AZ l t cs ht h2;have hrun:(convert src dst (a.eval xo)).run C.P w = .ok (.string ⟨(ns.map fun n=>dc n.toNat).toArray⟩) w:=by
    rw[hx'];rw[run_convert_bytes_string w src dst e ad n c hs he hd];cases ad with
    | none=>
     simp only[Builtin.firstCells,cZ,Result.ok.injEq,and_true]at h1;have:ns=[]:=by
      cases ns with
      | nil=>rfl
      | cons _ _=>simp at h1
     subst this;rfl
    | some ad=>
     simp only[Builtin.firstCells,je]at h1;rw[run_bytesToString w ad n c ns h1,fold_push];simp
   simp[execOp,hrun]
theorem Hy (r:Rel C ρ s a w){t kt et ty:TypeId}{x:AV}{x':Value}(hu:C.P.underlying t=some (.map kt et))(hx:V ρ w x x'){n:Nat}(hn:x = .ee/\n=0\/∃b es,x = .map b/\s.hp.at b=some (.map es)/\es.length=n) :
 (Builtin.len_ #[t] ty #[x']).run C.P w = .ok (.int .i64 n) w:=by
 rcases hn with ⟨rfl,rfl⟩|⟨b,es,rfl,hb,rfl⟩
 . cases hx;simp[Builtin.len_,cE hu,goInt]
 . obtain⟨_,c,ms,clk,g1,g2,g3,_⟩:=AU r.mem hb;cases hx with
   | map hρ=>rw[hρ]at g1;cases g1;simp[Builtin.len_,cE hu,mY g2,g3,goInt]
   | jb _ hρ=>grind
theorem RI (r:Rel C ρ s a w){t u ty elem:TypeId}{n bb:Nat}(he:jI C.P t=some (elem,n,bb)){x y:AV}{x' y':Value}(hx:V ρ w x x')(hy:V ρ w y y')
 {src:List AV} {k:Nat} (hsrc:gY s.hp y=some (src,k)) (hl:src.length=k*n) (hone:src.all dx=true) {b off len:Nat} {cap:Option Nat} {l:List AV} {el:TypeId} (hxe:x = .sl b off len n cap) (hb:s.hp.at b=some (.cells l el))
 (hin:off+min k len*n<=l.length):∃w',(Builtin.copy_ #[t,u] ty #[x',y']).run C.P w = .ok (.int .i64 ((min k len:Nat):Int)) w'/\fE C.P C.gl ρ s.hp w ⟨.int .i64 ((min k len:Nat):Int),s.hp.put b (some (.cells (overwrite l off (src.take (min k len*n))) el)),[b]⟩ (.int .i64 ((min k len:Nat):Int)) w':=by
 subst hxe;obtain⟨i,hu,hi,rfl,rfl⟩:=mX he;obtain⟨h1,h2⟩:=mW r.mem hy hsrc hl;obtain⟨cs,h3,h4⟩:=h2 (min k len) ac;obtain⟨h0,hbr⟩:=mA r.mem hb;have h3':(Builtin.firstCells i.size (Nat.min k len) y').run C.P w = .ok cs.toArray w:=h3;cases hx with
 | @sl _ c d _ _ _ capC _ hρ hlc hcap hs=>
  have hone':(src.take (min k len*i.size)).all dx=true:=by
   rw[List.all_eq_true]at hone ⊢;exact bc
  have htl:(src.take (min k len*i.size)).length<=min k len*i.size:=by rw[d7];exact ac
  obtain⟨w',g1,m1,x1⟩:=sD (off:=off) r.mem hb hρ h4 ac (fun cs e fr hq=>by
   rcases hbr with ⟨c',d',cs',fr',q1,q2,q3,_⟩|⟨q1,_⟩
   . rw[hρ]at q1;cases q1;rw[hq]at q2;cases q2;have:=q3.1;omega
   grind) hone'
  refine⟨w',?_,ρ,.int _ _,m1,x1⟩;simp[Builtin.copy_,cE hu,h1,iO hi,h3',g1,goInt]
 | gO hρ=>
  rcases hbr with ⟨c',d',cs',fr',q1,q2,q3,_⟩|⟨q1,rfl⟩
  . grind
  . have hz:min k 0=0:=Nat.min_zero _;refine⟨w,?_,ρ,.int _ _,?_,?_⟩
    . have Ba:(Builtin.firstCells i.size 0 y').run C.P w = .ok cs.toArray w:=by rw[hz]at h3;exact h3
      simp[Builtin.copy_,cE hu,h1,iO hi,Ba,goInt]
    . have:s.hp.put b (some (.cells (overwrite [] 0 (src.take (min k 0*i.size))) el))=s.hp:=by
       unfold ab.put overwrite;rw[hz];simp;apply gC;intro j;rw[gD];split
       . grind
       . rfl
      rw[this];exact r.mem
    . have:s.hp.put b (some (.cells (overwrite [] 0 (src.take (min k 0*i.size))) el))=s.hp:=by
       unfold ab.put overwrite;rw[hz];simp;apply gC;intro j;rw[gD];split
       . grind
       . rfl
      grind[Ext.refl]
 | fQ _ _ hρ _ _=>rcases hbr.live with ⟨_,_,hl'⟩|hl'|hl' <;> (rw[hρ]at hl';cases hl')
 | gw hρ=>rcases hbr.live with ⟨_,_,hl'⟩|hl'|hl' <;> (rw[hρ]at hl';cases hl')
 | gP a hρ=>rcases hbr.live with ⟨_,_,hl'⟩|hl'|hl' <;> (rw[hρ]at hl';cases hl')
theorem Hz {z:List AV}(hz:z.all dx=true):∀n,(iE z n).all dx=true
 | 0=>rfl
 | n+1=>by rw[iE,List.all_append,hz,Hz hz n];rfl
theorem RJ (r:Rel C ρ s a w){t ty elem:TypeId}{n bb:Nat}(he:jI C.P t=some (elem,n,bb)){z:List AV}(hz:(zeroOf C.P elem).bind AV.cells=some z)(hzn:z.length=n)(hone:z.all dx=true){x':Value}{b off len:Nat}{cap:Option Nat}{l:List AV}{el:TypeId}(hx:V ρ w (.sl b off len n cap) x')(hb:s.hp.at b=some (.cells l el))(hlen:0<len)
 (hin:off+len*n<=l.length):∃w',(Builtin.clear_ #[t] ty #[x']).run C.P w = .ok (.tuple #[]) w'/\fE C.P C.gl ρ s.hp w ⟨.aw [],s.hp.put b (some (.cells (overwrite l off (iE z len)) el)),[b]⟩ (.tuple #[]) w':=by
 obtain⟨i,hu,hi,rfl,rfl⟩:=mX he;obtain⟨i',zv,hi',hzv,hzl,hzrun⟩:=sE hz;rw[hi]at hi';cases hi';have hzs:zv.cells.size=i.size:=by rw[←hzn,(hzl ρ w).toList]
 have hrep:=AS (hzl ρ w) len;have hrl:=AT z len;rw[hzn]at hrl;obtain⟨h0,hbr⟩:=mA r.mem hb;cases hx with
 | @sl _ c d _ _ _ capC _ hρ hlc hcap hs=>
  obtain⟨w',g1,m1,x1⟩:=sD (off:=off) r.mem hb hρ hrep ac (fun cs e fr hq=>by
   rcases hbr with ⟨c',d',cs',fr',q1,q2,q3,_⟩|⟨q1,_⟩
   . rw[hρ]at q1;cases q1;rw[hq]at q2;cases q2;have:=q3.1;omega
   grind) (Hz hone len)
  refine⟨w',?_,ρ,.jm .nil,m1,x1⟩;obtain⟨m,rfl⟩:∃m,len=m+1:=⟨len-1,ac⟩;simp only[Builtin.clear_];simp[cE hu,hzrun,Builtin.zeroCells]<;>simp_all
 | gO hρ=>omega
 | fQ _ _ hρ _ _=>rcases hbr.live with ⟨_,_,hl'⟩|hl'|hl' <;> (rw[hρ]at hl';cases hl')
 | gw hρ=>omega
 | gP a hρ=>omega
theorem HA {P:Program}{t ty:TypeId}(hu:P.underlying t=some (.slice e)){w:World}{a:Option Addr}{c:Nat}:(Builtin.clear_ #[t] ty #[.slice a 0 c]).run P w = .ok (.tuple #[]) w:=by
 cases a <;> simp[Builtin.clear_,cE hu]
theorem RK (r:Rel C ρ s a w){t u ty elem:TypeId}{n bb:Nat}(he:jI C.P t=some (elem,n,bb)){y:AV}{y':Value}(hy:V ρ w y y')
 {src:List AV} {k:Nat} (hsrc:gY s.hp y=some (src,k)) (hl:src.length=k*n):(Builtin.copy_ #[t,u] ty #[.slice none 0 0,y']).run C.P w = .ok (.int .i64 0) w:=by
 obtain⟨i,hu,hi,rfl,rfl⟩:=mX he;obtain⟨h1,h2⟩:=mW r.mem hy hsrc hl;obtain⟨cs,h3,h4⟩:=h2 0 (gc _);simp[Builtin.copy_,cE hu,h1,iO hi,h3,goInt]
theorem RL (r:Rel C ρ s a w){t e:TypeId}{n:Nat}{i:TypeInfo}{xo:Operand}{lo hi:Option Operand}(hu:C.P.underlying t=some (.array n e))(hie:C.P.info? e=some i){b o:Nat}(hx:V ρ w (.ptr b o) (a.eval xo))
 {l:List AV} {el:TypeId} (hb:s.hp.at b=some (.cells l el)) (hin:o+n*i.size<=l.length) {la ha:Option AV} (hl:VO ρ w la (lo.map a.eval)) (hh:VO ρ w ha (hi.map a.eval)) {h' l':Nat} (h2:cH ha n n=some h') (h3:cH la 0 h'=some l')
 {op:Oper} (ho:op.op = .slice t xo lo hi none):cO C a.eval op ρ s.hp w ⟨if l'<n then .sl b (o+l'*i.size) (h'-l') i.size (some (n-l')) else .vs [] 0 (some 0),s.hp,[]⟩:=by
 obtain⟨d,opp,ty,pos,af,gd⟩:=op;simp only at ho;subst ho;obtain⟨h0,hbr⟩:=mA r.mem hb;generalize hxv:a.eval xo=xv at hx;cases hx with
 | @ptr _ c d _ hρ=>
  have hrun:=QT (P:=C.P) (w:=w) (ρ:=ρ) hu hie (a:=⟨c,o+d,none⟩) hl hh h2 h3;have hh':=mz (b9 _) h2;have hl':=mz (gc _) h3;refine cO.val (v':=_) (w':=w) (by simp[execOp,hxv];rw[hrun];rfl) (jd r.mem ?_);rcases hbr with ⟨c',d',cs,fr,q1,q2,q3,_⟩|⟨q1,_⟩
  . rw[hρ]at q1;cases q1;split
    . rename_i hlt;rw[if_neg ac];have hmul:l'*i.size+(n-l')*i.size=n*i.size:=by rw[←ii];congr 1;omega
      have:(Addr.add ⟨c,o+d,none⟩ (l'*i.size))=⟨c,o+l'*i.size+d,none⟩:=by
       unfold Addr.add;split
       . grind
       . grind
      rw[this];exact .sl hρ ac ax ⟨cs,el,fr,q2,by have:=q3.1;omega⟩
    . rename_i hge;have e1:n=l':=by omega
      rw[if_pos e1];rw[show h'-l'=0 from by omega,show n-l'=0 from by omega];exact V.empty ax ax ax
  grind
 | fA _ _ _ hρ=>rcases hbr.live with ⟨_,_,hl'⟩|hl'|hl' <;> (rw[hρ]at hl';cases hl')
theorem RM {α:Type}(x:Array α)(y:α)(f:α->α):(x.push y).modify x.size f=x.push (f y):=by
 grind
theorem RN (w:World)(e:TypeId)(s:ByteArray):Lib.bytesWorld w e s =
 { w with drawn:=w.drawn+1,heap:=w.heap.push (.cells (Lib.bytesCells w e s) e ((Lib.bytesCells w e s).size,(Lib.bytesCells w e s).size+1)) }:=by
 unfold Lib.bytesWorld jN World.alloc World.drew;grind[RM]
theorem RO (r:Rel C ρ s a w){src dst e:TypeId}{xo:Operand}(hs:C.P.underlying src=some .string)(hd:C.P.underlying dst=some (.slice e))(he:C.P.underlying e=some (.int .u8))(hne:¬jY C.P e=true)
 {t:List UInt8} (hx:V ρ w (.str t) (a.eval xo)) {o:Oper} (ho:o.op = .convert src dst xo) :
 cO C a.eval o ρ s.hp w ⟨.sl s.hp.length 0 t.length 1 none,s.hp++[some (.cells (t.map fun c=>.int .u8 c.toNat) e)],[]⟩:=by
 obtain⟨d,op,ty,pos,af,gd⟩:=o;simp only at ho;subst ho;have hrun:=Lib.run_convert_string_bytes (P:=C.P) w src dst e ⟨t.toArray⟩ hs hd he;rw[RN]at hrun;have hge:=grownCap_ge w t.length 0 e;have hsz:(cP t.toArray).size=t.length:=by simp[de]
 have hcs:(Lib.bytesCells w e ⟨t.toArray⟩).size=grownCap w t.length 0 e:=by
  simp[Lib.bytesCells,hsz];omega
 have md:=r.mem.drew (w.drawn+1);have xd:=Ext.drew s.hp ρ w (w.drawn+1);have x:=Ext.alloc md (some (.cells (t.map fun c=>.int .u8 c.toNat) e)) (.cells (Lib.bytesCells w e ⟨t.toArray⟩) e ((Lib.bytesCells w e ⟨t.toArray⟩).size,(Lib.bytesCells w e ⟨t.toArray⟩).size+1)) (.live w.heap.size 0) ax;refine cO.val (v':=.slice (some ⟨w.heap.size,0,none⟩) t.length (grownCap w t.length 0 e))
  (w':={ w with drawn:=w.drawn+1,heap:=w.heap.push (.cells (Lib.bytesCells w e ⟨t.toArray⟩) e ((Lib.bytesCells w e ⟨t.toArray⟩).size,(Lib.bytesCells w e ⟨t.toArray⟩).size+1)) }) ?_
  ⟨ρ.fe s.hp.length (.live w.heap.size 0),?_,Mem.alloc md _ _ _ ax ?_,xd.trans x⟩
 . have e1:a.eval xo = .string ⟨t.toArray⟩:=hx.kH;simp only[execOp,e1,bA,hrun,bj,cZ];rw[hsz]
 . exact .sl (d:=0) ax hge ax ⟨Lib.bytesCells w e ⟨t.toArray⟩,e,((Lib.bytesCells w e ⟨t.toArray⟩).size,(Lib.bytesCells w e ⟨t.toArray⟩).size+1),ax,ac⟩
 . intro o' ho';cases ho';refine .inl ⟨w.heap.size,0,Lib.bytesCells w e ⟨t.toArray⟩,((Lib.bytesCells w e ⟨t.toArray⟩).size,(Lib.bytesCells w e ⟨t.toArray⟩).size+1),aW.gQ _ _ _,ax,⟨bc,fun he=>absurd he hne⟩,fun i hi=>?_,fun i y z hy hz=>?_⟩
   . unfold iH;grind
   . simp only[List.getElem?_map,be]at hy;obtain⟨c,hc,rfl⟩:=hy;have hi:i<t.length:=(br.1 hc).1;simp only[Lib.bytesCells,Nat.add_zero]at hz;rw[Array.getElem?_append_left bc]at hz;simp[hc]at hz;subst hz;exact .int _ _
theorem sG (m:Mem P gl ρ h w){b o:Nat}{l:List AV}{e:TypeId}(hb:h.at b=some (.cells l e)){v:Value}(hx:V ρ w (.ptr b o) v) :
 ∃c d cs fr,v = .pointer (some ⟨c,o+d,none⟩)/\ρ b = .live c d/\w.heap[c]? = some (.cells cs e fr)/\Fits P e d l.length cs.size /\
  ∀(i:Nat) x y,l[i]? = some x->cs[i+d]? = some y->V ρ w x y:=by
 obtain⟨h0,hbr⟩:=mA m hb;cases hx with
 | @ptr _ c d _ hρ=>
  rcases hbr with ⟨c',d',cs,fr,q1,q2,q3,_,q5⟩|⟨q1,_⟩<;>grind
 | fA _ _ _ hρ=>rcases hbr.live with ⟨_,_,hl'⟩|hl'|hl' <;> (rw[hρ]at hl';cases hl')
theorem Bb {c:Nat}{cs:Array Value}{fr:Nat×Nat}(h:w.heap[c]? = some (.cells cs e fr)):w.shape? c=some (e,cs.size):=by
 simp[World.shape?,h]
theorem RP (r:Rel C ρ s a w){op:BinOp}{t:TypeId}{x y:Operand}{u ty:TypeId}{dst:Option Tmp}{pos:String}{af:Array Edge}{gd:Option (Nat×Bool)}(hcm:sn op=true)(ho:Ay C.P t=true){b o:Nat}{l:List AV}{e:TypeId}(hx:V ρ w (.ptr b o) (a.eval x))(hy:V ρ w (.ptr b o) (a.eval y))
 (hb:s.hp.at b=some (.cells l e)) {op':Oper} (hop:op'=⟨dst,.binOp op t x y u,ty,pos,af,gd⟩) :
 cO C a.eval op' ρ s.hp w ⟨.bool (!(op == .neq)),s.hp,[]⟩:=by
 subst hop;unfold Ay at ho;split at ho
 . rename_i te hu;obtain⟨j,hj⟩:∃j,C.P.info? te=some j:=by
    unfold jY at ho;grind
   obtain⟨c,d,cs,fr,e1,hρ,_⟩:=sG r.mem hb hx;obtain⟨c',d',cs',fr',e2,hρ',_⟩:=sG r.mem hb hy;rw[hρ]at hρ';cases hρ';have hE:(Op.equal t (a.eval x) (a.eval y)).run C.P w = .ok true w:=by
    rw[e1,e2];have h:∀d':Nat,(Op.equalIn (d'+1) t (.pointer (some ⟨c,o+d,none⟩)) (.pointer (some ⟨c,o+d,none⟩))).run C.P w = .ok true w:=fun d'=>by
     simp[Op.equalIn,cE hu,sizeOf,typeInfo,hj,run_sameAddr_same]
    exact h 9999
   have hg:(eqGuard op t x y (a.eval x) (a.eval y)).run C.P w = .ok () w:=by
    rw[e1,e2];exact(by grind[sy])
   refine cO.val (v':=.bool (!(op == .neq))) (w':=w) ?_ (jd r.mem (.bool _));have hn:qu (a.eval x)=false:=by rw[e1];rfl
   cases op <;> simp only[sn,ce]at hcm
   . simp[execOp,hg,binOp_eql hn,hE]
   . simp[execOp,hg,binOp_neq hn,hE]
 grind
theorem RQ (r:Rel C ρ s a w){src dst t:TypeId}{i:TypeInfo}{x:Operand}(hs:C.P.underlying src=some (.pointer t))(hd:C.P.underlying dst=some .unsafePointer)(hi:C.P.info? t=some i)(hsz:¬i.size=0)
 {b o:Nat} {l:List AV} {e:TypeId} (hx:V ρ w (.ptr b o) (a.eval x)) (hb:s.hp.at b=some (.cells l e)) (hin:o<l.length) {op:Oper} (ho:op.op = .convert src dst x) :
 cO C a.eval op ρ s.hp w ⟨.ptr b o,s.hp,[]⟩:=by
 obtain⟨dd,oo,ty,pos,af,gd⟩:=op;simp only at ho;subst ho;obtain⟨c,d,cs,fr,e1,hρ,h2,h3,_⟩:=sG r.mem hb hx;have hrun:=Lib.run_to_unsafe (P:=C.P) w (src:=src) (dst:=dst) ⟨c,o+d,none⟩ hs hd hi hsz (Bb h2) (by have:=h3.1;grind);exact cO.val (v':=a.eval x) (w':=w) (by rw[e1];simp[execOp,e1,hrun]) (jd r.mem hx)
theorem RR (r:Rel C ρ s a w){src dst u:TypeId}{i:TypeInfo}{x:Operand}(hs:C.P.underlying src=some .unsafePointer)(hd:C.P.underlying dst=some (.pointer u))(hi:C.P.info? u=some i)(hex:jY C.P u=true)
 (hlie:liesAt C.P C.P.depth u (C.P.cellsOf u/C.P.cellsOf u) 0 u 1=true) {b:Nat} {l:List AV} (hx:V ρ w (.ptr b 0) (a.eval x)) (hb:s.hp.at b=some (.cells l u)) (hl:l.length=C.P.cellsOf u) {op:Oper} (ho:op.op = .convert src dst x) :
 cO C a.eval op ρ s.hp w ⟨.ptr b 0,s.hp,[]⟩:=by
 obtain⟨dd,oo,ty,pos,af,gd⟩:=op;simp only at ho;subst ho;obtain⟨c,d,cs,fr,e1,hρ,h2,h3,_⟩:=sG r.mem hb hx;obtain⟨rfl,h4⟩:=h3.2 hex;have hrun:=Lib.run_from_unsafe (P:=C.P) w (src:=src) (dst:=dst) ⟨c,0+0,none⟩ hs hd hi (Bb h2) bc;exact cO.val (v':=a.eval x) (w':=w) (by rw[e1];simp[execOp,e1,hrun]) (jd r.mem hx)
theorem RS (r:Rel C ρ s a w){t u ty:TypeId}{x n:Operand}{dst:Option Tmp}{pos:String}{af:Array Edge}{gd:Option (Nat×Bool)}{kk:IntKind}(hx:V ρ w .fx (a.eval x))(hn:V ρ w (.int kk 0) (a.eval n)) :
 cO C a.eval ⟨dst,.call ⟨.builtin .unsafeString,[x,n].toArray,[t,u].toArray⟩,ty,pos,af,gd⟩ ρ s.hp w ⟨.str [],s.hp,[]⟩:=by
 have e1:=hn.im;generalize hxv:a.eval x=xv at hx;cases hx;refine cO.val (v':=.string .empty) (w':=w) ?_ (jd r.mem (V.str []));rw[iQ];have hmax:IntKind.i64.max=9223372036854775807:=rfl;have hdef:Builtin.unsafeString_ [t,u].toArray ty #[.pointer none,.int kk 0] =
  (do
    let n ←asInt (.int kk 0)
    if n < 0 then runtimePanic (.error "unsafe.String: len out of range")
    if n > IntKind.i64.max then unsupported (.unsafePointer "String: a length above the largest int")
    if n=0 then pure (.string .empty)
    else runtimePanic (.error "unsafe.String: ptr is nil and len is not zero")) := rfl
 have hrun:(Builtin.unsafeString_ [t,u].toArray ty #[.pointer none,.int kk 0]).run C.P w = .ok (.string .empty) w:=by
  rw[hdef];simp[asInt,asIntOf,hmax]
 simp only[builtin,c5,c6,c9,bA,hxv,e1,hrun];rfl
theorem RT {P:Program}(hc:P.cellsOf e=1)(count off n:Nat)(hn:off+n<=count):liesAt P P.depth e count off e n=true:=by
 have hd:P.depth=(2*(P.types.size+Made.depth)+1)+1:=rfl;rw[hd];simp only[liesAt,Bool.or_eq_true];left;rw[hd];simp[rowAt,hc,hn,sameLayout,Nat.mod_one]
theorem HB {P:Program}(w:World):∀(l:List Int) (a:Addr) (acc:ByteArray),(∀(j:Nat) x,l[j]? = some x->w.cell? (a.add j)=some (.int .u8 x)) ->
 (loadBytes a acc l.length).run P w = .ok ⟨acc.data++(l.map fun z=>dc z.toNat).toArray⟩ w
 | [],a,acc,_=>by rfl
 | x::l,a,acc,h=>by
  have h0:w.cell? a=some (.int .u8 x):=by
   have:=h 0 x rfl;simpa[Addr.add] using this
  have ih:=HB (P:=P) w l (a.add 1) (acc.push x.toNat.toUInt8) (fun j y hy=>by
   have:=h (j+1) y (by simpa using hy);have e:(a.add 1).add j=a.add (j+1):=by
    unfold Addr.add;by_cases hj:j=0
    . subst hj;simp
    . simp[hj];omega
   rw[e];exact this)
  simp only[d8,loadBytes,bA,run_load,h0,Result.andThen];rw[ih];congr 1;apply iI;simp[ByteArray.push]
theorem RU {c o n:Nat}{cs:Array Value}{fr:Nat×Nat}(h:w.heap[c]? = some (.cells cs e fr))(hn:n≠0) :
 ∃fr',w.freeze ⟨c,o,none⟩ n=w.dY c (.cells cs e fr'):=by
 obtain⟨lo,hi⟩:=fr;have hlt:=(cD.1 h).1;refine⟨if lo == hi then (o,o+n) else (min lo o,max hi (o+n)),?_⟩;unfold jN World.dY;rw[if_neg hn];congr 1<;>grind
theorem RV (r:Rel C ρ s a w){t u ty e:TypeId}{x n:Operand}{dst:Option Tmp}{pos:String}{af:Array Edge}{gd:Option (Nat×Bool)}{kk:IntKind}{k:Int}(hu:C.P.underlying t=some (.pointer e))(hce:C.P.cellsOf e=1)
 {b o:Nat} (hx:V ρ w (.ptr b o) (a.eval x)) (hn:V ρ w (.int kk k) (a.eval n)) (hk:0<k) (hk':k<=2^46) {l:List AV} (hb:s.hp.at b=some (.cells l e)) {c:List AV} (hcut:cut l o k.toNat=some c) {t':List UInt8} (hbo:bytesOf c=some t') :
 cO C a.eval ⟨dst,.call ⟨.builtin .unsafeString,[x,n].toArray,[t,u].toArray⟩,ty,pos,af,gd⟩ ρ s.hp w ⟨.str t',s.hp.put b none,[b]⟩:=by
 obtain⟨h0,_⟩:=mA r.mem hb;obtain⟨cb,d,cs,fr,e1,hρ,h2,h3,h5⟩:=sG r.mem hb hx;have e2:=hn.im;obtain⟨m,rfl⟩:=Int.eq_ofNat_of_zero_le (Int.le_of_lt hk);rw[Int.toNat_natCast]at hcut;unfold cut at hcut;simp only at hcut;split at hcut
 . rename_i hlen;cases hcut;have hm:o+m<=l.length:=by simp at hlen;omega
   have hm0:m≠0:=by omega
   have hsz:o+d+m<=cs.size:=by have:=h3.1;omega
   have hVL:VL ρ w ((l.drop o).take m) ((cs.toList.drop (o+d)).take m):=by
    refine⟨bc,fun i x y hx hy=>?_⟩;rw[c7]at hx hy;split at hx
    . grind
    . cases hx
   obtain⟨ns,hns,rfl⟩:=AZ _ _ _ hbo hVL;have hnl:ns.length=m:=by
    have:=congrArg List.length hns;simp at this;omega
   have hcell:∀(j:Nat) z,ns[j]? = some z->w.cell? ((⟨cb,o+d,none⟩:Addr).add j)=some (.int .u8 z):=by
    intro j z hz;have hj:j<m:=by have:=(br.1 hz).1;omega
    have h7:((cs.toList.drop (o+d)).take m)[j]? = some (.int .u8 z):=by rw[hns];simp[hz]
    rw[c7,if_pos hj,fY]at h7;rw[Addr.iP];unfold f9;simp only[h2];rw[if_neg ax];simpa using h7
   have hlb:=HB (P:=C.P) w ns ⟨cb,o+d,none⟩ .empty hcell;rw[hnl]at hlb;have hlie:=RT (P:=C.P) hce (cs.size/C.P.cellsOf e) (o+d) m bc;obtain⟨fr',hfr⟩:=RU (o:=o+d) h2 hm0;have hrun:(Builtin.unsafeString_ [t,u].toArray ty #[.pointer (some ⟨cb,o+d,none⟩),.int kk m]).run C.P w = .ok (.string ⟨(ns.map fun z=>dc z.toNat).toArray⟩) (w.dY cb (.cells cs e fr')):=by
    have hmax:IntKind.i64.max=9223372036854775807:=rfl;have h63:¬(9223372036854775807:Int)<(m:Int):=by omega
    have hneg:¬(m:Int)<0:=by omega
    have hdef:Builtin.unsafeString_ [t,u].toArray ty #[.pointer (some ⟨cb,o+d,none⟩),.int kk m] =
     (do
       let n ←asInt (.int kk m)
       if n < 0 then runtimePanic (.error "unsafe.String: len out of range")
       if n > IntKind.i64.max then unsupported (.unsafePointer "String: a length above the largest int")
       if n=0 then pure (.string .empty)
       else if ←variablesAt ⟨cb,o+d,none⟩ (←elemOf t) n.toNat then do
        let s ←loadBytes ⟨cb,o+d,none⟩ .empty n.toNat
        freeze ⟨cb,o+d,none⟩ n.toNat
        pure (.string s)
       else unsupported (.unsafePointer "String: not so many bytes at ptr")) := rfl
    rw[hdef];simp[asInt,asIntOf,hmax,h63,hneg,hm0,variablesAt,Bb h2,elemOf,cE hu,hlie,hlb,hfr]
   have hO:∀cs0 e0 fr0,w.heap[cb]? = some (.cells cs0 e0 fr0)->∃cs' fr'',Obj.cells cs e fr' = .cells cs' e0 fr''/\cs'.size=cs0.size:=by
    intro cs0 e0 fr0 hq;rw[h2]at hq;cases hq;exact⟨_,_,rfl,rfl⟩
   refine cO.val (v':=.string ⟨(ns.map fun z=>dc z.toNat).toArray⟩) (w':=w.dY cb (.cells cs e fr')) ?_
    ⟨ρ,V.str _,Mem.write r.mem h0 hρ none _ hO ax,Ext.write r.mem h0 hρ none _ hO⟩
   rw[iQ];simp only[builtin,c5,c6,c9,bA,e1,e2,hrun];rfl
 grind
theorem RW (r:Rel C ρ s a w){o:Oper}{io:bI}(hc:jJ C o=some io)(hh:io.bU=true){q:HR}(hq:cg s io s.hp=some q):cO C a.eval o ρ s.hp w q:=by
 obtain⟨dst,op,ty,pos,af,gd⟩:=o;cases op <;> simp only[jJ]at hc
 case move x=>simp only[be]at hc;obtain⟨y,h1,rfl⟩:=hc;cases hh
 case assign x=>simp only[be]at hc;obtain⟨y,h1,rfl⟩:=hc;cases hh
 case pick c x y=>split at hc <;> first|(cases hc;done)|(cases hc;cases hh)
 case nilCheck x=>simp only[be]at hc;obtain⟨y,h1,rfl⟩:=hc;cases hh
 case unOp=>simp only[be]at hc;obtain⟨y,h1,rfl⟩:=hc;cases hh
 case extract=>simp only[be]at hc;obtain⟨y,h1,rfl⟩:=hc;cases hh
 case makeFunc=>
                  repeat' (first|(cases hc;done)|split at hc)
                  all_goals (cases hc;cases hh)
 case makeInterface=>split at hc <;> first|(cases hc;done)|(simp only[be]at hc;obtain⟨y,h1,rfl⟩:=hc;cases hh)
 case build=>
               repeat' (first|(cases hc;done)|split at hc)
               all_goals (simp only[be]at hc;obtain⟨y,h1,rfl⟩:=hc;cases hh)
 case binOp op t x y u=>
  split at hc
  . rename_i x' y' h1 h2;split at hc
    . split at hc
      . rename_i hcmp hown;cases hc;simp only[cg]at hq;split at hq
        . rename_i b o b' o' h3 h4;split at hq
          . rename_i l e hb;split at hq
            . rename_i hcond;obtain⟨rfl,rfl⟩:=hcond;cases hq;exact RP r bc bc (r.ae h1 h3) (r.ae h2 h4) hb rfl
            grind
          grind
        grind
      . split at hc
        . cases hc
        . simp only[be]at hc;obtain⟨y,h1,rfl⟩:=hc;cases hh
    . cases hc;cases hh
  grind
 case fieldAddr=>
                   repeat' (first|(cases hc;done)|split at hc)
                   all_goals (cases hc;cases hh)
 case field=>
               repeat' (first|(cases hc;done)|split at hc)
               all_goals (cases hc;cases hh)
 case indexAddr=>
                   repeat' (first|(cases hc;done)|split at hc)
                   all_goals (cases hc;cases hh)
 case index=>
               repeat' (first|(cases hc;done)|split at hc)
               all_goals (cases hc;cases hh)
 case alloc e=>
  split at hc
  . rename_i z hz;simp only[be]at hc;obtain⟨zc,h1,rfl⟩:=hc;simp only[cg,ci.injEq]at hq;subst hq;exact Ry r bc rfl
  grind
 case box e x=>
  split at hc
  . rename_i n ag x' hs hx;cases hc;simp only[cg]at hq;split at hq
    . rename_i l hl;split at hq
      . cases hq;simp only[bZ]at hl;obtain⟨v,h1,h2⟩:=hl;exact Rx r (r.ae hx h1) h2 rfl
      grind
    grind
  grind
 case buildSlice t len ps=>
  split at hc
  . rename_i e n bb he;split at hc
    . rename_i z l hz hl;split at hc
      . rename_i hcond;cases hc;simp only[cg]at hq;split at hq
        . rename_i vs hvs;split at hq
          . rename_i l' hl';split at hq
            . rename_i hlen;cases hq;exact Rv r he hz hl hcond.2.2 hcond.2.1 hcond.1 hvs hl' hlen rfl
            grind
          grind
        grind
      grind
    grind
  grind
 case load t x=>
  split at hc
  . rename_i n ag x' hs hx;cases hc;simp only[cg]at hq;split at hq
    . rename_i l hl;split at hq
      . rename_i v hv;cases hq;simp only[bZ]at hl;obtain⟨u,h1,h2⟩:=hl;exact Rz r hs (r.ae hx h1) h2 hv rfl
      grind
    grind
  grind
 case store t x y=>
  split at hc
  . rename_i n ag x' y' hs hx hy;cases hc;simp only[cg]at hq;split at hq
    . rename_i b off new h1 h2;split at hq
      . rename_i l el hb;split at hq
        . rename_i hcond;cases hq;simp only[bZ]at h2;obtain⟨u,h3,h4⟩:=h2;exact RA r hs (r.ae hx h1) (r.ae hy h3) h4 hb hcond.1 hcond.2.1 hcond.2.2 rfl
        grind
      grind
    grind
  grind
 case convert src dst x=>
  split at hc <;> try (cases hc;done)
  . cases hc;cases hh
  . cases hc;cases hh
  . cases hc;cases hh
  . rename_i e x' hs hd hx;split at hc
    . rename_i he;split at hc
      . cases hc
      . rename_i hne;cases hc;simp only[cg]at hq;split at hq
        . rename_i t h1;cases hq;exact RO r hs hd he hne (r.ae hx h1) rfl
        grind
    grind
  . rename_i e x' hs hd hx;split at hc
    . rename_i he;cases hc;simp only[cg]at hq;split at hq
      . cases hq
      . rename_i y hns h1;split at hq
        . rename_i l n hl;split at hq
          . rename_i hln;split at hq
            . rename_i t ht;cases hq;exact RH r hs hd he (r.ae hx h1) ac hl hln ht rfl
            grind
          grind
        grind
      grind
    grind
  . rename_i t x' hs hd hx;split at hc
    . rename_i i hi;split at hc
      . cases hc
      . rename_i hsz;cases hc;simp only[cg]at hq;split at hq
        . rename_i b o h1;split at hq
          . rename_i l e hb;split at hq
            . rename_i hcond;cases hq;exact RQ r hs hd hi hsz (r.ae hx h1) hb hcond.1 rfl
            grind
          grind
        grind
    grind
  . rename_i u x' hs hd hx;split at hc
    . rename_i i hi;split at hc
      . rename_i hlie;cases hc;simp only[cg]at hq;split at hq
        . rename_i b o h1;split at hq
          . rename_i l e hb;split at hq
            . rename_i hcond;cases hq;simp only[decide_eq_true_eq]at hcond;obtain⟨_,rfl,rfl,hl⟩:=hcond;simp only[gF]at hlie;exact RR r hs hd hi hlie.1 hlie.2 (r.ae hx h1) hb hl rfl
            grind
          grind
        grind
      grind
    grind
 case makeMap t res=>
  cases res with
  | some _=>cases hc
  | none=>
   cases hc;simp only[cg,ci.injEq]at hq;subst hq;exact RD r rfl
 case makeSlice t l c=>
  split at hc
  . rename_i e n bb l' c' he hl hcc;split at hc
    . rename_i z hz;split at hc
      . rename_i hcond;cases hc;simp only[cg]at hq;split at hq
        . rename_i x y h1 h2;split at hq
          . rename_i hk;cases hq;simp only[bZ]at h1 h2;obtain⟨u,h3,h4⟩:=h1;obtain⟨u',h5,h6⟩:=h2;cases u <;> simp only[sh,reduceCtorEq,ci.injEq]at h4;cases u' <;> simp only[sh,reduceCtorEq,ci.injEq]at h6;subst h4;subst h6;exact Rw r he hz hcond.1 hcond.2 (r.ae hl h3).im (r.ae hcc h5).im hk.1 hk.2.1 hk.2.2.1 hk.2.2.2.1 rfl
          grind
        grind
      grind
    grind
  grind
 case slice t x lo hi mx=>
  split at hc <;> try (cases hc;done)
  . cases hc;cases hh
  . split at hc
    . cases hc;cases hh
    grind
  . rename_i n e x' l' h' hu hx hlo hhi hmx;split at hc
    . rename_i i hi';cases hc;have hmx0:mx=none:=by
       cases mx with
       | none=>rfl
       | some m=>simp[mQ]at hmx
      subst hmx0;simp only[cg]at hq;split at hq
      . rename_i b o la ha h1 h2 h3;split at hq
        . rename_i l el hb;split at hq
          . rename_i hin;split at hq
            . rename_i hb' hbb;split at hq
              . rename_i ll hll;cases hq;exact RL r hu hi' (r.ae hx h1) hb hin (ot r hlo h2) (ot r hhi h3) hbb hll rfl
              grind
            grind
          grind
        grind
      grind
    grind
 case lookup t x i ok=>
  split at hc
  . rename_i kt et x' i' hu hx hi;split at hc
    . rename_i k z hk hz;cases hc;simp only[cg]at hq;split at hq
      . rename_i m kv h1 h2;split at hq
        . rename_i cw;split at hq
          . rename_i es hes;split at hq
            . rename_i q' hf;cases hq;have hes':m = .ee/\es=[]\/∃b,m = .map b/\s.hp.at b=some (.map es):=by
               split at hes
               . grind
               . grind
               . cases hes
              have:=RC r hu hk hz (r.ae hx h1) (r.ae hi h2) cw hes' hf (ok:=ok) (o:=⟨dst,.lookup t x i ok,ty,pos,af,gd⟩) rfl;cases q' <;> exact this
            grind
          grind
        grind
      grind
    grind
  grind
 case mapUpdate t m i x=>
  split at hc
  . rename_i kt et m' i' x' hu hm hi hx;simp only[be]at hc;obtain⟨k,hk,rfl⟩:=hc;simp only[cg]at hq;split at hq
    . rename_i b kv v h1 h2 h3;split at hq
      . rename_i cw;split at hq
        . rename_i es hb;split at hq
          . rename_i j u hf;cases hq;exact vH r hu hk (r.ae hm h1) (r.ae hi h2) (r.ae hx h3) cw hb hf (.inl rfl)
          . rename_i hf;cases hq;exact vH r hu hk (r.ae hm h1) (r.ae hi h2) (r.ae hx h3) cw hb hf (.inl rfl)
          grind
        grind
      grind
    grind
  grind
 case insert t m i x=>
  split at hc
  . rename_i kt et m' i' x' hu hm hi hx;simp only[be]at hc;obtain⟨k,hk,rfl⟩:=hc;simp only[cg]at hq;split at hq
    . rename_i b kv v h1 h2 h3;split at hq
      . rename_i cw;split at hq
        . rename_i es hb;split at hq
          . rename_i j u hf;cases hq;exact vH r hu hk (r.ae hm h1) (r.ae hi h2) (r.ae hx h3) cw hb hf (.inr rfl)
          . rename_i hf;cases hq;exact vH r hu hk (r.ae hm h1) (r.ae hi h2) (r.ae hx h3) cw hb hf (.inr rfl)
          grind
        grind
      grind
    grind
  grind
 case range t x=>
  split at hc
  . rename_i x' hu hx;cases hc;simp only[cg]at hq;split at hq
    . rename_i u h1;cases hq;exact RE r hu (r.ae hx h1) rfl
    grind
  grind
 case next x st=>
  cases st with
  | false=>cases hc
  | true=>
   simp only[be]at hc;obtain⟨x',hx,rfl⟩:=hc;simp only[cg]at hq;split at hq
   . rename_i b h1;split at hq
     . rename_i t pos hb;have:=RF r (r.ae hx h1) hb (o:=⟨dst,.next x true,ty,‹String›,af,gd⟩) rfl<;>grind
     grind
   grind
 case call c=>
  obtain⟨callee,args,ats⟩:=c;cases callee with
  | value f=>
   simp only at hc;split at hc
   . cases hc;simp[cg]at hq
   grind
  | invoke x name=>
   simp only at hc;split at hc
   . cases hc;simp[cg]at hq
   grind
  | builtin b=>
   simp only at hc;split at hc <;> try (cases hc;done)
   . rename_i t x h1 h2;obtain rfl:=jc h1;obtain⟨x0,hx0,h3⟩:=qy h2;obtain rfl:=jc hx0;split at hc
     . cases hc;cases hh
     . rename_i kt et hu;cases hc;simp only[cg]at hq;split at hq
       . rename_i b' h4;split at hq
         . rename_i es he;cases hq;have hl:=Hy r hu (ty:=ty) (r.ae h3 h4) (.inr ⟨b',es,rfl,he,rfl⟩);refine cO.val (v':=.int .i64 es.length) (w':=w) ?_ (jd r.mem (.int _ _));rw[iQ];simp[builtin,hl]
         grind
       . rename_i h4;cases hq;have hl:=Hy r hu (ty:=ty) (r.ae h3 h4) (.inl ⟨rfl,rfl⟩);refine cO.val (v':=.int .i64 0) (w':=w) ?_ (jd r.mem (.int _ _));rw[iQ];simp only[builtin,c5,c6,c9,bA,hl];rfl
       grind
     . cases hc;cases hh
     . cases hc;cases hh
     grind
   . split at hc <;> first|(cases hc;done)|(cases hc;cases hh)
   . rename_i t u x y h1 h2;obtain rfl:=jc h1;obtain⟨x0,x1,hx0,h3,h4⟩:=AL h2;obtain rfl:=jc hx0;have fin:∀e n bb,jI C.P t=some (e,n,bb)->((∃e,C.P.underlying u=some (.slice e))\/C.P.underlying u=some .string)->vn C.P e n=true->jY C.P e=false->io = .append e n bb x y ->
      cO C a.eval ⟨dst,.call ⟨.builtin .append,[x0,x1].toArray,[t,u].toArray⟩,ty,pos,af,gd⟩ ρ s.hp w q:=by
      rintro e n bb he hu hzf hne rfl;simp only[cg]at hq;split at hq
      . rename_i xa ya hx hy;obtain⟨i,hu0,hi,rfl,rfl⟩:=mX he;unfold vn at hzf;split at hzf
        . rename_i z hz;obtain⟨i',zv,hi',hzv,hzl,_⟩:=sE hz;rw[hi]at hi';cases hi';have hzs:zv.cells.size=i.size:=by
           have e1:=(hzl ρ w).toList;rw[←e1];simpa using hzf
          obtain⟨v',w',g1,g2⟩:=Ru (ty:=ty) r.mem ⟨hu0,hu,hi,hzv,hzs⟩ (r.ae h3 hx) (r.ae h4 hy) hne hq;refine cO.val (v':=v') (w':=w') ?_ g2;rw[iQ];simp[builtin,g1]
        grind
      . cases hq
     grind
   . rename_i t u x y h1 h2;obtain rfl:=jc h1;obtain⟨x0,x1,hx0,h3,h4⟩:=AL h2;obtain rfl:=jc hx0;split at hc <;> try (cases hc;done)
     rename_i e n bb he;split at hc <;> try (cases hc;done)
     rename_i hn0;cases hc;simp only[cg]at hq;split at hq <;> try (cases hq;done)
     . rename_i b off len e' cap ya hx hy;split at hq <;> try (cases hq;done)
       rename_i src k hsrc;split at hq <;> try (cases hq;done)
       rename_i hcond;obtain⟨rfl,hl,hone⟩:=hcond;split at hq <;> try (cases hq;done)
       rename_i l el hb;split at hq <;> try (cases hq;done)
       rename_i hin;cases hq;obtain⟨w',g1,g2⟩:=RI (u:=u) (ty:=ty) r he (r.ae h3 hx) (r.ae h4 hy) hsrc hl hone rfl hb hin;refine cO.val (v':=.int .i64 ((min k len:Nat):Int)) (w':=w') ?_ g2;rw[iQ];simp only[builtin,c5,c6,c9,bA,g1];rfl
     . rename_i ya hx hy;split at hq <;> try (cases hq;done)
       rename_i src k hsrc;split at hq <;> try (cases hq;done)
       rename_i hl;cases hq;have e0:=(r.ae h3 hx);generalize hxv:a.eval x0=xv at e0;cases e0;have g1:=RK (u:=u) (ty:=ty) r he (r.ae h4 hy) hsrc hl;refine cO.val (v':=.int .i64 0) (w':=w) ?_ (jd r.mem (.int _ _));rw[iQ];simp only[builtin,c5,c6,c9,bA,hxv,g1];rfl
   . rename_i t x h1 h2;obtain rfl:=jc h1;obtain⟨x0,hx0,h3⟩:=qy h2;obtain rfl:=jc hx0;split at hc <;> try (cases hc;done)
     rename_i e n bb he;split at hc <;> try (cases hc;done)
     rename_i z hz;split at hc <;> try (cases hc;done)
     rename_i hzn;cases hc;simp only[cg]at hq;split at hq <;> try (cases hq;done)
     . rename_i b off len e' cap hx;split at hq <;> try (cases hq;done)
       rename_i hcond;obtain⟨rfl,hone,_,hlen⟩:=hcond;split at hq <;> try (cases hq;done)
       rename_i l el hb;split at hq <;> try (cases hq;done)
       rename_i hin;cases hq;obtain⟨w',g1,g2⟩:=RJ (ty:=ty) r he hz hzn.1 hone (r.ae h3 hx) hb hlen hin;refine cO.val (v':=.tuple #[]) (w':=w') ?_ g2;rw[iQ];simp only[builtin,c5,c6,c9,bA,g1];rfl
     . rename_i cap hx;cases hq;obtain⟨i,hu,_⟩:=mX he;have e0:=r.ae h3 hx;generalize hxv:a.eval x0=xv at e0;have g1:(Builtin.clear_ #[t] ty #[xv]).run C.P w = .ok (.tuple #[]) w:=by
        cases e0 <;> exact HA hu
       refine cO.val (v':=.tuple #[]) (w':=w) ?_ (jd r.mem (.jm .nil));rw[iQ];simp only[builtin,c5,c6,c9,bA,hxv,g1];rfl
     . rename_i hx;cases hq;obtain⟨i,hu,_⟩:=mX he;have e0:=r.ae h3 hx;generalize hxv:a.eval x0=xv at e0;have g1:(Builtin.clear_ #[t] ty #[xv]).run C.P w = .ok (.tuple #[]) w:=by
        cases e0 <;> exact HA hu
       refine cO.val (v':=.tuple #[]) (w':=w) ?_ (jd r.mem (.jm .nil));rw[iQ];simp only[builtin,c5,c6,c9,bA,hxv,g1];rfl
   . split at hc <;> first|(cases hc;done)|(cases hc;cases hh)
   . rename_i t u x n h1 h2;obtain rfl:=jc h1;obtain⟨x0,x1,hx0,h3,h4⟩:=AL h2;obtain rfl:=jc hx0;split at hc <;> try (cases hc;done)
     rename_i e hu;split at hc <;> try (cases hc;done)
     rename_i hce;cases hc;simp only[cg]at hq;split at hq <;> try (cases hq;done)
     . rename_i kk k h5 h6;split at hq <;> try (cases hq;done)
       rename_i hk;subst hk;cases hq;exact RS r (r.ae h3 h5) (r.ae h4 h6)
     . rename_i b o kk k h5 h6;split at hq <;> try (cases hq;done)
       rename_i hk;split at hq <;> try (cases hq;done)
       rename_i l el hb;split at hq <;> try (cases hq;done)
       rename_i hel;subst hel;split at hq <;> try (cases hq;done)
       rename_i c hcut;split at hq <;> try (cases hq;done)
       rename_i t' hbo;cases hq;exact RV r hu hce (r.ae h3 h5) (r.ae h4 h6) hk.1 hk.2 hb hcut hbo
   . cases hc;cases hh
   . cases hc;cases hh
 case typeAssert x xt t ok=>
  split at hc
  . cases hc
  . split at hc
    . cases hc;cases hh
    grind
  grind
 all_goals (cases hc)
end Go.Ab
