import GoSem.Step
import Derived.Laws.Sem
import Derived.CallsIn
import Derived.RangeFuncIn
import Derived.OrdersIn
import Derived.Laws.Strings
import Derived.Laws.StructEq
import Derived.ChangeKeysEq
import Derived.Lib.UnsafeStr
import Derived.IntWalk
import Derived.Laws.BytesString
open Array renaming getElem?_eq_some_iff→c9,toArray_toList→d6,range→d7,toList_map→fm
open Bool renaming false_eq_true→ce,not_true→f8,and_eq_true→jU
open ByteArray renaming mk→dN,size→f7,ext→j6
open List renaming getElem?_eq_some_iff→b7,getElem?_eq_getElem→ci,length_set→c3,cons_append→d8,length_cons→d9,nil_append→fG,length_append→fT,getElem?_take→gF,getElem?_append_left→g9,range'→hZ,length_take→ii,take_length→ip,drop→it,getElem?_append→i4,take→i5,getElem?_drop→i6,flatten_cons→i9,range'_succ→jq,foldlM_cons→jD,length_nil→j1,append_nil→j2,drop_zero→j3,all_cons→j4
open Nat renaming le_refl→b8,mul_le_mul_right→dO,add_right_comm→f6,lt_of_lt_of_le→gT,zero_mul→iy,add_mul→iz,le_trans→i7,lt_trichotomy→i8,zero_le→j0
open Option renaming map_eq_some_iff→b5,bind_eq_some_iff→c7,some→c8,map_some→f9
open Go.Result renaming andThen_ok→b6
open Go.Sem renaming run_bind→b9,run_pure→dY
open Go.World renaming cell?→i3,frozen?→j5
set_option maxHeartbeats 8000000
set_option maxRecDepth 20000
namespace Go.Ab
theorem ac {P:Prop}(h:P:=by omega):P:=h
theorem am {P:Prop}(h:P:=by decide):P:=h
theorem be {P:Prop}(h:P:=by simp):P:=h
theorem bS {P:Prop}(h:P:=by grind):P:=h
inductive AV where
 | db
 | bool (b:Bool)
 | int (k:IntKind) (n:Int)
 | str (s:List UInt8)
 | dG
 | ptr (b off:Nat)
 | vp (l:List AV)
 | ab
 | sl (b off len esz:Nat) (cap:Option Nat)
 | vs (l:List AV) (len:Nat) (cap:Option Nat)
 | eO
 | map (b:Nat)
 | fn (f:Fn) (first captured:List AV)
 | fO
 | iface (t:TypeId) (v:AV)
 | dh
 | agg (l:List AV)
 | au (l:List AV)
 deriving Inhabited
inductive ay where
 | p (i:Nat)
 | l (t:Nat)
 | c (v:AV)
 deriving Inhabited
inductive Io where
 | ptr|slice|map|func
 deriving Inhabited
inductive iE where
 | bool|int|str|ref (k:Io)|iface (guard:Bool)
 | By (fs:List (Nat×Nat×Bool×iE))
 deriving Inhabited
inductive mS where
 | str|sl|arr (n:Nat)
 deriving Inhabited
inductive jd where
 | int|str
 deriving Inhabited
inductive bg where
 | mv (x:ay)
 | pick (c a b:ay)
 | bin (op:BinOp) (x y:ay)
 | eq (neg:Bool) (t:iE) (x y:ay)
 | un (op:UnOp) (x:ay)
 | dM (k:IntKind) (x:ay)
 | Bz (x:ay)
 | BA (x:ay)
 | qA (elem:TypeId) (x:ay)
 | mg (x:ay)
 | lf (u:Option (TypeId×Nat)) (x:ay)
 | oC (neg:Bool) (x y:ay)
 | sr (x:ay)
 | kq (e:TypeId) (x n:ay)
 | ss (esz:Nat) (z:List AV) (x:ay)
 | kr (x:ay)
 | field (off n:Nat) (agg:Bool) (x:ay)
 | jA (off:Nat) (x:ay)
 | dw (arr:Option Nat) (esz:Nat) (x i:ay)
 | index (x i:ay)
 | BB (len esz:Nat) (agg:Bool) (x i:ay)
 | slice (k:mS) (esz:Nat) (x:ay) (lo hi mx:Option ay)
 | extract (i:Nat) (x:ay)
 | lh (t:TypeId) (x:ay)
 | BC (t:TypeId) (z:AV) (ok:Bool) (x:ay)
 | vF (f:Fn) (first captured:List ay)
 | build (zero:List AV) (ps:List (Nat×Nat×ay))
 | len (k:mS) (x:ay)
 | cap (x:ay)
 | mm (max:Bool) (xs:List ay)
 | alloc (elem:TypeId) (zero:List AV)
 | box (elem:TypeId) (n:Nat) (x:ay)
 | du (elem:TypeId) (len esz:Nat) (zero:List AV) (ps:List (Nat×Nat×ay))
 | load (n:Nat) (agg:Bool) (x:ay)
 | store (n:Nat) (x y:ay)
 | oE
 | gZ (elem:TypeId) (esz bytes:Nat) (zero:List AV) (l c:ay)
 | lookup (k:jd) (zero:AV) (x i:ay) (ok:Bool)
 | su (k:jd) (m i x:ay)
 | range (x:ay)
 | next (x:ay)
 | append (elem:TypeId) (esz bytes:Nat) (x y:ay)
 | copy (esz:Nat) (x y:ay)
 | jn (n esz:Nat) (x:ay) (lo hi:Option ay)
 | sv (x:ay)
 | call (f:ay) (args:List ay)
 | invoke (x:ay) (name:String) (args:List ay)
 deriving Inhabited
inductive eZ where
 | no|p (i:Nat)|l (t:Nat)
 deriving Inhabited
structure aX where
 dst:eZ
 op:bg
 guard:Option (ay×Bool)
 deriving Inhabited
inductive ak where
 | skip
 | region (ops:List aX)
 | draw (ops:List (aX×List Nat))
 | seq (a b:ak)
 | cond (c:ay) (thn els:ak)
 | block (id:Nat) (body:ak)
 | loop (body:ak)
 | exit (id:Nat)
 | ret
 | rangeFunc (inner:Bool) (f:ay) (ps:List eZ) (assign body:ak)
 | bad
 deriving Inhabited
inductive Ex where
 | normal|exit (id:Nat)|ret
 deriving DecidableEq,Inhabited
inductive ba where
 | cells (l:List AV) (elem:TypeId)
 | map (es:List (AV×AV))
 | iter (s:List UInt8) (pos:Nat)
 | hJ
 | hole
 | loop (st:LoopState) (pend:Option Ex) (pe:List AV) (ps:List eZ) (assign body:ak)
 deriving Inhabited
abbrev aa:=List (Option ba)
inductive fA where
 | var (x:ay)
 | cell (n:Nat) (agg:Bool) (x:ay)
 deriving Inhabited
structure dv where
 N:Nat
 aR:List Nat
 results:List fA
 body:ak
 deriving Inhabited
structure St where
 pe:List AV
 lo:List (Nat×AV)
 hp:aa
 bV:List Nat:=[]
 deriving Inhabited
def St.ae (s:St):ay->Option AV
 | .p i=>s.pe[i]?
 | .l t=>s.lo.lookup t
 | .c v=>some v
def St.cM (s:St):List ay->Option (List AV)
 | []=>some []
 | x::xs=>match s.ae x with
   | some v=>match s.cM xs with
     | some vs=>some (v::vs)
     | none=>none
   | none=>none
def St.cZ (s:St):Option ay->Option (Option AV)
 | none=>some none
 | some x=>(s.ae x).map some
def St.put (s:St)(d:eZ)(v:AV):St:=
 match d with
 | .no=>s
 | .p i=>{ s with pe:=s.pe.set i v }
 | .l t=>{ s with lo:=(t,v)::s.lo }
def AV.cells:AV->Option (List AV)
 | .db=>none
 | .agg l=>some l
 | v=>some [v]
def cI:AV->Bool
 | .db | .agg _ | .au _=>false
 | _=>true
def cut (l:List AV)(off n:Nat):Option (List AV):=
 let r:=(l.drop off).take n
 if r.length=n then some r else none
def partOf (l:List AV)(off n:Nat)(agg:Bool):Option AV:=
 if agg then (cut l off n).map .agg else l[off]?
def overwrite (l:List AV)(off:Nat)(new:List AV):List AV:=
 l.take off++new++l.drop (off+new.length)
def mh:List AV->List (Nat×Nat×AV)->Option (List AV)
 | cs,[]=>some cs
 | cs,(off,n,v)::rest=>match v.cells with
   | some l=>if l.length=n/\off+n<=cs.length then mh (overwrite cs off l) rest else none
   | none=>none
def St.parts (s:St):List (Nat×Nat×ay)->Option (List (Nat×Nat×AV))
 | []=>some []
 | (o,n,x)::r=>match s.ae x with
   | some v=>match s.parts r with
     | some vs=>some ((o,n,v)::vs)
     | none=>none
   | none=>none
def sw:AV->Option Int
 | .int _ n=>some n
 | _=>none
def aa.at (h:aa)(b:Nat):Option ba:=(h[b]?).join
def fP (h:aa):AV->Option (List AV)
 | .ptr b off=>match h.at b with|some (.cells l _)=>some (l.drop off)|_=>none
 | .vp l=>some l
 | _=>none
def dV (h:aa):AV->Option (List AV×Nat)
 | .ab=>some ([],0)
 | .vs l n _=>some (l,n)
 | .sl b off n esz _=>match h.at b with
   | some (.cells l _)=>(cut l off (n*esz)).map (·,n)
   | _=>if n=0 then some ([],0) else none
 | .str s=>some (s.map fun c=>.int .u8 c.toNat,s.length)
 | _=>none
def jT:Io->AV->AV->Option Bool
 | .ptr,.dG,.dG=>some true
 | .ptr,.dG,.ptr _ _=>some false
 | .ptr,.dG,.vp _=>some false
 | .ptr,.ptr _ _,.dG=>some false
 | .ptr,.vp _,.dG=>some false
 | .slice,.ab,.ab=>some true
 | .slice,.ab,.sl _ _ (_+1) _ _=>some false
 | .slice,.sl _ _ (_+1) _ _,.ab=>some false
 | .slice,.ab,.sl _ _ 0 _ (some _)=>some false
 | .slice,.sl _ _ 0 _ (some _),.ab=>some false
 | .slice,.ab,.vs (_::_) _ _=>some false
 | .slice,.vs (_::_) _ _,.ab=>some false
 | .map,.eO,.eO=>some true
 | .map,.eO,.map _=>some false
 | .map,.map _,.eO=>some false
 | .func,.fO,.fO=>some true
 | .func,.fO,.fn _ _ _=>some false
 | .func,.fn _ _ _,.fO=>some false
 | _,_,_=>none
def goEq (rec:iE->AV->AV->Option Bool):List (Nat×Nat×Bool×iE)->List AV->List AV->Option Bool
 | [],_,_=>some true
 | (off,n,ag,t)::rest,xs,ys=>
  match partOf xs off n ag,partOf ys off n ag with
  | some x,some y=>match rec t x y with
    | some true=>goEq rec rest xs ys
    | some false=>some false
    | none=>none
  | _,_=>none
def eC:Nat->iE->AV->AV->Option Bool
 | 0,_,_,_=>none
 | d+1,t,x,y=>
  match t,x,y with
  | .bool,.bool a,.bool b=>some (a == b)
  | .int,.int k a,.int k' b=>if k=k' then some (a == b) else none
  | .str,.str a,.str b=>some (a == b)
  | .ref k,x,y=>jT k x y
  | .iface g,.dh,.dh=>if g then none else some true
  | .iface _,.dh,.iface _ _=>some false
  | .iface _,.iface _ _,.dh=>some false
  | .By fs,.agg xs,.agg ys=>goEq (fun t x y=>eC d t x y) fs xs ys
  | _,_,_=>none
def cU (op:BinOp)(x y:AV):Option AV:=
 match x,y with
 | .int k a,.int k' b=>
  match op with
  | .shl=>if b<0 then none else some (.int k (k.wrap (a*2^(min b.toNat k.bits))))
  | .shr=>if b<0 then none else some (.int k (a.fdiv (2^(min b.toNat k.bits))))
  | op=>if k=k' then
      match op with
      | .add=>some (.int k (k.wrap (a+b)))
      | .sub=>some (.int k (k.wrap (a-b)))
      | .mul=>some (.int k (k.wrap (a*b)))
      | .quo=>if b=0 then none else some (.int k (k.wrap (a.tdiv b)))
      | .rem=>if b=0 then none else some (.int k (a.tmod b))
      | .and=>some (.int k (k.wrap (BitVec.ofInt k.bits a &&& BitVec.ofInt k.bits b).toNat))
      | .or=>some (.int k (k.wrap (BitVec.ofInt k.bits a ||| BitVec.ofInt k.bits b).toNat))
      | .xor=>some (.int k (k.wrap (BitVec.ofInt k.bits a ^^^ BitVec.ofInt k.bits b).toNat))
      | .andNot=>some (.int k (k.wrap (BitVec.ofInt k.bits a &&& ~~~ BitVec.ofInt k.bits b).toNat))
      | .eql=>some (.bool (a == b))
      | .neq=>some (.bool (a != b))
      | .lss=>some (.bool (a<b))
      | .leq=>some (.bool (a<=b))
      | .gtr=>some (.bool (a > b))
      | .geq=>some (.bool (a>=b))
      | _=>none
    else none
 | .str a,.str b=>
  match op with
  | .add=>if a.length+b.length<2^62 then some (.str (a++b)) else none
  | .eql=>some (.bool (a == b))
  | .neq=>some (.bool !(a == b))
  | .lss=>some (.bool (Op.bytesLess a b))
  | .leq=>some (.bool (Op.bytesLess a b || a == b))
  | .gtr=>some (.bool !(Op.bytesLess a b || a == b))
  | .geq=>some (.bool !(Op.bytesLess a b))
  | _=>none
 | _,_=>none
def sx (op:UnOp)(x:AV):Option AV:=
 match op,x with
 | .neg,.int k n=>some (.int k (k.wrap (0-n)))
 | .not,.bool b=>some (.bool !b)
 | .xor,.int k n=>some (.int k (k.wrap (BitVec.ofInt k.bits (if k.signed then -1 else k.max) ^^^ BitVec.ofInt k.bits n).toNat))
 | _,_=>none
def mT (k:IntKind)(x:AV):Option AV:=
 match x with
 | .int _ n=>some (.int k (k.wrap n))
 | _=>none
def BD (off:Nat)(x:AV):Option AV:=
 match x with
 | .ptr b o=>some (.ptr b (o+off))
 | .vp l=>some (.vp (l.drop off))
 | _=>none
def oF (arr:Option Nat)(esz:Nat)(x i:AV):Option AV:=
 match i with
 | .int _ n=>
  match arr,x with
  | some len,.ptr b o=>if 0<=n/\n<len then some (.ptr b (o+n.toNat*esz)) else none
  | some len,.vp l=>if 0<=n/\n<len then some (.vp (l.drop (n.toNat*esz))) else none
  | none,.sl b o len e _=>if 0<=n/\n<len/\e=esz then some (.ptr b (o+n.toNat*esz)) else none
  | none,.vs l len _=>if 0<=n/\n<len then some (.vp (l.drop (n.toNat*esz))) else none
  | _,_=>none
 | _=>none
def vG (x i:AV):Option AV:=
 match x,i with
 | .str s,.int _ n=>if 0<=n then (s[n.toNat]?).map fun c=>.int .u8 c.toNat else none
 | _,_=>none
def bR (x:Option AV)(dflt most:Nat):Option Nat:=
 match x with
 | none=>some dflt
 | some (.int _ n)=>if 0<=n/\n<=most then some n.toNat else none
 | some _=>none
def jo (k:mS)(esz:Nat)(x:AV)(lo hi mx:Option AV):Option AV:=
 match k,x,mx with
 | .str,.str s,none=>
  match bR hi s.length s.length with
  | some h=>match bR lo 0 h with
    | some l=>some (.str ((s.drop l).take (h-l)))
    | none=>none
  | none=>none
 | .sl,.ab,none=>
  match bR hi 0 0,bR lo 0 0 with
  | some _,some _=>some .ab
  | _,_=>none
 | .sl,.ab,some m=>
  match bR (some m) 0 0,bR hi 0 0,bR lo 0 0 with
  | some _,some _,some _=>some .ab
  | _,_,_=>none
 | .sl,.sl b o len e cap,none=>
  if e=esz then
   match bR hi len (cap.getD len) with
   | some h=>match bR lo 0 h with
     | some l=>
      if l<h then some (.sl b (o+l*esz) (h-l) esz (cap.map (· - l)))
      else some (.vs [] 0 (cap.map (· - l)))
     | none=>none
   | none=>none
  else none
 | .sl,.sl b o len e cap,some m=>
  if e=esz then
   match bR (some m) len (cap.getD len) with
   | some m=>match bR hi len m with
     | some h=>match bR lo 0 h with
       | some l=>
        if l<h then some (.sl b (o+l*esz) (h-l) esz (some (m-l)))
        else some (.vs [] 0 (some (m-l)))
       | none=>none
     | none=>none
   | none=>none
  else none
 | .sl,.vs c len cap,none=>
  match bR hi len len with
  | some h=>match bR lo 0 h with
    | some l=>some (.vs ((c.drop (l*esz)).take ((h-l)*esz)) (h-l) (cap.map (· - l)))
    | none=>none
  | none=>none
 | .sl,.vs c len _,some m=>
  match bR (some m) len len with
  | some m=>match bR hi len m with
    | some h=>match bR lo 0 h with
      | some l=>some (.vs ((c.drop (l*esz)).take ((h-l)*esz)) (h-l) (some (m-l)))
      | none=>none
    | none=>none
  | none=>none
 | _,_,_=>none
def vH (k:mS)(x:AV):Option AV:=
 match k,x with
 | .str,.str s=>some (.int .i64 s.length)
 | .sl,.ab=>some (.int .i64 0)
 | .sl,.sl _ _ n _ _=>some (.int .i64 n)
 | .sl,.vs _ n _=>some (.int .i64 n)
 | _,_=>none
def oG (max:Bool):AV->List AV->Option AV
 | x,[]=>some x
 | .int k a,.int k' b::rest=>
  if k=k' then oG max (.int k (if max then (if b > a then b else a) else (if b<a then b else a))) rest else none
 | _,_=>none
def BE (x:AV):Option AV:=
 match x with
 | .ptr _ _ | .vp _=>some x
 | .fn (.func _) _ _=>some x
 | .fn (.yield _) _ _=>some x
 | _=>none
def aY (s:St)(io:bg):Option AV:=
 match io with
 | .mv x=>s.ae x
 | .pick c a b=>match s.ae c,s.ae a,s.ae b with
   | some (.bool t),some a,some b=>some (if t then a else b)
   | some (.bool t),some a,none=>if t then some a else none
   | some (.bool t),none,some b=>if t then none else some b
   | _,_,_=>none
 | .bin op x y=>match s.ae x,s.ae y with
   | some a,some b=>cU op a b
   | _,_=>none
 | .eq neg t x y=>match s.ae x,s.ae y with
   | some a,some b=>match eC 100 t a b with
     | some r=>some (.bool (if neg then !r else r))
     | none=>none
   | _,_=>none
 | .un op x=>(s.ae x).bind (sx op)
 | .dM k x=>(s.ae x).bind (mT k)
 | .Bz x=>match s.ae x with
   | some (.int _ n)=>some (.str (Utf8.encode n).data.toList)
   | _=>none
 | .BA x=>match s.ae x with
   | some (.str t)=>some (.str t)
   | _=>none
 | .kr x=>(s.ae x).bind BE
 | .field off n ag x=>match s.ae x with
   | some (.agg l)=>partOf l off n ag
   | _=>none
 | .jA off x=>(s.ae x).bind (BD off)
 | .dw arr esz x i=>match s.ae x,s.ae i with
   | some a,some b=>oF arr esz a b
   | _,_=>none
 | .index x i=>match s.ae x,s.ae i with
   | some a,some b=>vG a b
   | _,_=>none
 | .BB len esz ag x i=>match s.ae x,s.ae i with
   | some (.agg l),some (.int _ n)=>if 0<=n/\n<len then partOf l (n.toNat*esz) esz ag else none
   | _,_=>none
 | .slice k esz x lo hi mx=>match s.ae x with
   | some a=>
    match s.cZ lo,s.cZ hi,s.cZ mx with
    | some l,some h,some m=>if m.isNone || h.isSome then jo k esz a l h m else none
    | _,_,_=>none
   | none=>none
 | .extract i x=>match s.ae x with
   | some (.au l)=>l[i]?
   | _=>none
 | .lh t x=>(s.ae x).map (.iface t)
 | .BC t z ok x=>match s.ae x with
   | some (.iface u v)=>if u=t then some (if ok then .au [v,.bool true] else v) else if ok then some (.au [z,.bool false]) else none
   | some .dh=>if ok then some (.au [z,.bool false]) else none
   | _=>none
 | .vF f fi ca=>match s.cM fi,s.cM ca with
   | some a,some b=>some (.fn f a b)
   | _,_=>none
 | .build zero ps=>match s.parts ps with
   | some vs=>(mh zero vs).map .agg
   | none=>none
 | .len k x=>match k with
   | .arr n=>some (.int .i64 n)
   | k=>(s.ae x).bind (vH k)
 | .cap x=>match s.ae x with
   | some .ab=>some (.int .i64 0)
   | some (.sl _ _ _ _ (some c))=>some (.int .i64 c)
   | some (.vs _ _ (some c))=>some (.int .i64 c)
   | _=>none
 | .mm mx xs=>match s.cM xs with
   | some (.int k a::rest)=>oG mx (.int k a) rest
   | _=>none
 | .sr x=>match s.ae x with
   | some .ab=>some .dG
   | some (.sl b o (_+1) _ _)=>some (.ptr b o)
   | _=>none
 | _=>none
def bg.bF:bg->Bool
 | .alloc .. | .box .. | .du .. | .load .. | .store .. | .oE | .gZ .. | .lookup .. | .su .. | .range .. | .next .. | .append .. | .copy .. | .jn .. | .sv .. | .call .. | .invoke .. | .mg .. | .qA .. | .lf .. | .oC .. | .kq .. | .ss .. => true
 | _=>false
def vI:List (Nat×Nat×ay)->List ay
 | []=>[]
 | (_,_,x)::r=>x::vI r
def bg.iw:bg->List ay
 | .mv x | .un _ x | .dM _ x | .Bz x | .BA x | .qA _ x | .mg x | .kr x | .field _ _ _ x | .jA _ x | .extract _ x | .lh _ x
 | .len _ x | .cap x | .box _ _ x | .load _ _ x | .range x | .next x | .sv x | .lf _ x | .sr x | .BC _ _ _ x | .ss _ _ x=>[x]
 | .pick c a b=>[c,a,b]
 | .bin _ x y | .eq _ _ x y | .dw _ _ x y | .index x y | .BB _ _ _ x y | .store _ x y | .gZ _ _ _ _ x y | .lookup _ _ x y _ | .append _ _ _ x y | .copy _ x y | .oC _ x y | .kq _ x y=>[x,y]
 | .slice _ _ x lo hi mx=>x::(lo.toList++hi.toList++mx.toList)
 | .jn _ _ x lo hi=>x::(lo.toList++hi.toList)
 | .vF _ fi ca=>fi++ca
 | .build _ ps | .du _ _ _ _ ps=>vI ps
 | .mm _ xs=>xs
 | .alloc .. | .oE=>[]
 | .su _ m i x=>[m,i,x]
 | .call f as | .invoke f _ as=>f::as
def aX.iw (o:aX):List ay:=(match o.guard with|some (x,_)=>[x]|none=>[])++o.op.iw
def dW:eZ->ay->Bool
 | .p i,.p j=>i == j
 | .l t,.l u=>t == u
 | _,_=>false
def Ip:eZ->eZ->Bool
 | .p i,.p j=>i == j
 | .l t,.l u=>t == u
 | _,_=>false
def qB (a b:aX):Bool:=(b.iw.all fun x=>!dW a.dst x) && (a.iw.all fun x=>!dW b.dst x) && !Ip a.dst b.dst
structure HR where
 v:AV
 h:aa
 wr:List Nat
def bD:AV:=.au []
def aa.put (h:aa)(b:Nat)(o:Option ba):aa:=h.set b o
def sy:AV->AV->Option Bool
 | .int k a,.int k' b=>if k=k' then some (a == b) else none
 | .str a,.str b=>some (a == b)
 | _,_=>none
def mi (k:AV):List (AV×AV)->Nat->Option (Option (Nat×AV))
 | [],_=>some none
 | (k',v)::r,i=>match sy k k' with
   | some true=>some (some (i,v))
   | some false=>mi k r (i+1)
   | none=>none
def jd.ok:jd->AV->Bool
 | .int,.int _ _=>true
 | .str,.str _=>true
 | _,_=>false
def fl (zero:List AV):Nat->List AV
 | 0=>[]
 | n+1=>zero++fl zero n
def bytesOf:List AV->Option (List UInt8)
 | []=>some []
 | .int .u8 n::r=>match bytesOf r with
   | some l=>some (UInt8.ofNat n.toNat::l)
   | none=>none
 | _=>none
def cz:Nat:=2^46
def gw (elem:TypeId)(esz bytes:Nat)(h:aa)(x y:AV):Option HR:=
 match dV h y with
 | none=>none
 | some (new,n)=>
  if new.length=n*esz/\0<bytes/\new.all cI=true then
   match x with
   | .ab=>
    if n=0 then some ⟨.ab,h,[]⟩
    else if n*bytes<=cz then some ⟨.sl h.length 0 n esz none,h++[some (.cells new elem)],[]⟩ else none
   | .vs l len cap=>
    if n=0 then some ⟨x,h,[]⟩ else
    match cap with
    | some c=>if c<len+n/\(len+n)*bytes<=cz/\l.length=len*esz then some ⟨.sl h.length 0 (len+n) esz none,h++[some (.cells (l++new) elem)],[]⟩ else none
    | none=>none
   | .sl b off len e cap=>
    if n=0 then some ⟨x,h,[]⟩ else
    if e=esz/\(len+n)*bytes<=cz then
     match h.at b with
     | some (.cells l el)=>
      match cap with
      | some c=>
       if len+n<=c then
        if off+(len+n)*esz<=l.length then some ⟨.sl b off (len+n) esz cap,h.put b (some (.cells (overwrite l (off+len*esz) new) el)),[b]⟩ else none
       else match cut l off (len*esz) with
        | some ck=>some ⟨.sl h.length 0 (len+n) esz none,h++[some (.cells (ck++new) elem)],[]⟩
        | none=>none
      | none=>
       if l.length=off+len*esz/\el=elem then
        some ⟨.sl h.length 0 (len+n) esz none,h.put b none++[some (.cells (l.drop off++new) elem)],[b]⟩
       else none
     | _=>none
    else none
   | _=>none
  else none
def bG (s:St)(io:bg)(h:aa):Option HR:=
 match io with
 | .alloc elem zero=>some ⟨.ptr h.length 0,h++[some (.cells zero elem)],[]⟩
 | .box elem n x=>match (s.ae x).bind AV.cells with
   | some l=>if l.length=n then some ⟨.ptr h.length 0,h++[some (.cells l elem)],[]⟩ else none
   | none=>none
 | .du elem len esz zero ps=>match s.parts ps with
   | some vs=>match mh (fl zero len) vs with
     | some l=>if l.length=len*esz then some ⟨.sl h.length 0 len esz (some len),h++[some (.cells l elem)],[]⟩ else none
     | none=>none
   | none=>none
 | .load n ag x=>match (s.ae x).bind (fP h) with
   | some l=>match partOf l 0 n ag with
     | some v=>some ⟨v,h,[]⟩
     | none=>none
   | none=>none
 | .store n x y=>match s.ae x,(s.ae y).bind AV.cells with
   | some (.ptr b off),some new=>match h.at b with
     | some (.cells l el)=>if new.length=n/\off+n<=l.length/\new.all cI=true then some ⟨bD,h.put b (some (.cells (overwrite l off new) el)),[b]⟩ else none
     | _=>none
   | _,_=>none
 | .oE=>some ⟨.map h.length,h++[some (.map [])],[]⟩
 | .gZ elem esz bytes zero l c=>match (s.ae l).bind sw,(s.ae c).bind sw with
   | some a,some b=>
    if 0<=a/\a<=b/\b.toNat*bytes<=cz/\b<=2^46/\zero.length=esz then some ⟨.sl h.length 0 a.toNat esz (some b.toNat),h++[some (.cells (fl zero b.toNat) elem)],[]⟩ else none
   | _,_=>none
 | .lookup kt zero x i ok=>match s.ae x,s.ae i with
   | some m,some k=>
    if kt.ok k then
     let es? : Option (List (AV×AV)):=match m with
      | .eO=>some []
      | .map b=>match h.at b with|some (.map es)=>some es|_=>none
      | _=>none
     match es? with
     | some es=>match mi k es 0 with
       | some r=>
        let v:=match r with|some (_,v)=>v|none=>zero
        some ⟨if ok then .au [v,.bool r.isSome] else v,h,[]⟩
       | none=>none
     | none=>none
    else none
   | _,_=>none
 | .su kt m i x=>match s.ae m,s.ae i,s.ae x with
   | some (.map b),some k,some v=>
    if kt.ok k then
     match h.at b with
     | some (.map es)=>match mi k es 0 with
       | some (some (j,_))=>some ⟨bD,h.put b (some (.map (es.set j (k,v)))),[b]⟩
       | some none=>some ⟨bD,h.put b (some (.map (es++[(k,v)]))),[b]⟩
       | none=>none
     | _=>none
    else none
   | _,_,_=>none
 | .range x=>match s.ae x with
   | some (.str t)=>some ⟨.ptr h.length 0,h++[some (.iter t 0)],[]⟩
   | _=>none
 | .next x=>match s.ae x with
   | some (.ptr b 0)=>match h.at b with
     | some (.iter t pos)=>
      if pos<t.length then
       let (c,w):=Utf8.decode ⟨t.toArray⟩ pos
       some ⟨.au [.bool true,.int .i64 pos,.int .i32 c],h.put b (some (.iter t (pos+w))),[b]⟩
      else some ⟨.au [.bool false],h,[]⟩
     | _=>none
   | _=>none
 | .append elem esz bytes x y=>match s.ae x,s.ae y with
   | some a,some b=>gw elem esz bytes h a b
   | _,_=>none
 | .ss esz z x=>match s.ae x with
   | some (.sl b off len e _)=>
    if e=esz/\z.all cI=true/\z.length=esz/\0<len then
     match h.at b with
     | some (.cells l el)=>if off+len*esz<=l.length then some ⟨.au [],h.put b (some (.cells (overwrite l off (fl z len)) el)),[b]⟩ else none
     | _=>none
    else none
   | some (.vs [] 0 _)=>some ⟨.au [],h,[]⟩
   | some .ab=>some ⟨.au [],h,[]⟩
   | _=>none
 | .copy esz x y=>match s.ae x,s.ae y with
   | some (.sl b off len e _),some y=>
    match dV h y with
    | some (src,n)=>
     if e=esz/\src.length=n*esz/\src.all cI=true then
      let m:=min n len
      match h.at b with
      | some (.cells l el)=>if off+m*esz<=l.length then some ⟨.int .i64 m,h.put b (some (.cells (overwrite l off (src.take (m*esz))) el)),[b]⟩ else none
      | _=>none
     else none
    | none=>none
   | some .ab,some y=>match dV h y with
     | some (src,n)=>if src.length=n*esz then some ⟨.int .i64 0,h,[]⟩ else none
     | none=>none
   | _,_=>none
 | .jn n esz x lo hi=>match s.ae x,s.cZ lo,s.cZ hi with
   | some (.ptr b o),some lo,some hi=>match h.at b with
     | some (.cells l _)=>
      if o+n*esz<=l.length then
       match bR hi n n with
       | some hh=>match bR lo 0 hh with
         | some ll=>some ⟨if ll<n then .sl b (o+ll*esz) (hh-ll) esz (some (n-ll)) else .vs [] 0 (some 0),h,[]⟩
         | none=>none
       | none=>none
      else none
     | _=>none
   | _,_,_=>none
 | .sv x=>match s.ae x with
   | some (.map b)=>match h.at b with
     | some (.map es)=>some ⟨.int .i64 es.length,h,[]⟩
     | _=>none
   | some .eO=>some ⟨.int .i64 0,h,[]⟩
   | _=>none
 | .qA elem x=>match s.ae x with
   | some (.str t)=>some ⟨.sl h.length 0 t.length 1 none,h++[some (.cells (t.map fun c=>.int .u8 c.toNat) elem)],[]⟩
   | _=>none
 | .mg x=>match s.ae x with
   | some (.str _)=>none
   | some y=>match dV h y with
     | some (l,n)=>if l.length=n then
         match bytesOf l with
         | some t=>some ⟨.str t,h,[]⟩
         | none=>none
       else none
     | none=>none
   | none=>none
 | .lf u x=>match s.ae x with
   | some (.ptr b o)=>match h.at b with
     | some (.cells l e)=>
      if o<l.length/\(match u with|none=>true|some (t,n)=>decide (o=0/\e=t/\l.length=n))=true then some ⟨.ptr b o,h,[]⟩ else none
     | _=>none
   | _=>none
 | .oC neg x y=>match s.ae x,s.ae y with
   | some (.ptr b o),some (.ptr b' o')=>match h.at b with
     | some (.cells _ _)=>if b=b'/\o=o' then some ⟨.bool !neg,h,[]⟩ else none
     | _=>none
   | _,_=>none
 | .kq e x n=>match s.ae x,s.ae n with
   | some .dG,some (.int _ k)=>if k=0 then some ⟨.str [],h,[]⟩ else none
   | some (.ptr b o),some (.int _ k)=>
    if 0<k/\k<=2^46 then
     match h.at b with
     | some (.cells l el)=>
      if el=e then
       match cut l o k.toNat with
       | some c=>match bytesOf c with
         | some t=>some ⟨.str t,h.put b none,[b]⟩
         | none=>none
       | none=>none
      else none
     | _=>none
    else none
   | _,_=>none
 | _=>none
abbrev dX:=AV->List AV->aa->Option HR
abbrev fQ:=TypeId->String->Option FuncId
def bI (call:dX)(inv:fQ)(s:St)(io:bg):Option HR:=
 match io with
 | .call f args=>match s.ae f,s.cM args with
   | some g,some as=>call g as s.hp
   | _,_=>none
 | .invoke x name args=>match s.ae x,s.cM args with
   | some (.iface t v),some as=>match inv t name with
     | some f=>call (.fn (.func f) [] []) (v::as) s.hp
     | none=>none
   | _,_=>none
 | io=>if io.bF then bG s io s.hp else (aY s io).map fun v=>⟨v,s.hp,[]⟩
def dP (s:St)(g:Option (ay×Bool)):Option Bool:=
 match g with
 | none=>some true
 | some (x,want)=>match s.ae x with
   | some (.bool b)=>some (b == want)
   | some (.au _)=>some false
   | _=>none
structure aq where
 s:St
 wr:List Nat
def ek (call:dX)(inv:fQ):List aX->aq->Option aq
 | [],s=>some s
 | o::rest,s=>match dP s.s o.guard with
   | some true=>match bI call inv s.s o.op with
     | some r=>ek call inv rest ⟨{ s.s.put o.dst r.v with hp:=r.h },r.wr++s.wr⟩
     | none=>none
   | some false=>ek call inv rest ⟨s.s.put o.dst bD,s.wr⟩
   | none=>none
def mask (h:aa)(U:List Nat):aa:=U.foldl (fun h b=>h.set b none) h
def cd (T:List Nat):aa->Nat->aa
 | [],_=>[]
 | o::r,i=>(if T.contains i then o else none)::cd T r (i+1)
def fe (wr:List Nat):aa->aa->Nat->aa
 | o::h,n::h',i=>(if wr.contains i then n else o)::fe wr h h' (i+1)
 | [],h',_=>h'
 | h,[],_=>h
def je (s:St)(io:bg):Option (List Nat):=
 let dc (x:ay):List Nat:=match s.ae x with
  | some (.ptr b _)=>[b]
  | some (.sl b _ _ _ _)=>[b]
  | some (.map b)=>[b]
  | _=>[]
 match io with
 | .alloc .. | .box .. | .du .. | .oE | .gZ .. | .range _ | .qA .. => some []
 | .load _ _ x | .next x | .sv x | .mg x | .store _ x _ | .lookup _ _ x _ _ | .su _ x _ _=>some (dc x)
 | .append _ _ _ x y | .copy _ x y | .oC _ x y=>some (dc x++dc y)
 | .lf _ x | .kq _ x _ | .ss _ _ x=>some (dc x)
 | .jn _ _ x _ _=>some (dc x)
 | .call .. | .invoke .. => none
 | _=>some []
structure bY where
 jB:Option (List Nat)
 wr:List Nat
 lo:Nat
 hi:Nat
def bY.own (d:bY):List Nat:=d.wr++hZ d.lo (d.hi-d.lo)
def fR (a b:List Nat):Bool:=a.all fun x=>!b.contains x
def dI (call:dX)(inv:fQ):List (aX×List Nat)->aq->List bY->Option aq
 | [],s,_=>some s
 | (o,un)::rest,s,ds=>match dP s.s o.guard with
   | some true=>
    if o.op.bF then
     let U:=un.flatMap fun j=>(ds[j]?).elim [] bY.own
     let t:=je s.s o.op
     if (match t with|some T=>fR T U|none=>true) then
      let h0:=match t with|some T=>cd T s.s.hp 0|none=>mask s.s.hp U
      match bI call inv { s.s with hp:=h0 } o.op with
      | some r=>
       if (r.wr.all fun b=>(h0.at b).isSome) && (r.wr.isEmpty || un.all (fun j=>match ds[j]? with|some d=>(match d.jB with|some T=>fR r.wr T|none=>false)|none=>false)) then
        dI call inv rest ⟨{ s.s.put o.dst r.v with hp:=fe r.wr s.s.hp r.h 0 },r.wr++s.wr⟩ (ds++[⟨t,r.wr,s.s.hp.length,r.h.length⟩])
       else none
      | none=>none
     else none
    else match aY s.s o.op with
     | some v=>dI call inv rest ⟨s.s.put o.dst v,s.wr⟩ (ds++[⟨some [],[],s.s.hp.length,s.s.hp.length⟩])
     | none=>none
   | some false=>dI call inv rest ⟨s.s.put o.dst bD,s.wr⟩ (ds++[⟨some [],[],s.s.hp.length,s.s.hp.length⟩])
   | none=>none
mutual
def AV.top:AV->Nat
 | .ptr b _=>b+1
 | .sl b _ _ _ _=>b+1
 | .map b=>b+1
 | .vp l=>bc l
 | .vs l _ _=>bc l
 | .fn f a b=>max (match f with | .yield l=>l+1|_=>0) (max (bc a) (bc b))
 | .iface _ v=>v.top
 | .agg l=>bc l
 | .au l=>bc l
 | _=>0
def bc:List AV->Nat
 | []=>0
 | v::r=>max v.top (bc r)
end
def ba.top:ba->Nat
 | .cells l _=>bc l
 | .map es=>oH es
 | .iter _ _=>0
 | .hJ=>0
 | .hole=>0
 | .loop _ _ pe _ _ _=>bc pe
where
 oH:List (AV×AV)->Nat
  | []=>0
  | (k,v)::r=>max (max k.top v.top) (oH r)
def tight (h:aa)(n:Nat)(wr:List Nat):Bool:=
 wr.all fun b=>match h.at b with
  | some o=>b>=n || o.top<=n
  | none=>true
def dx (s:St):List fA->Option (List AV)
 | []=>some []
 | r::rest=>
  let v? : Option AV:=match r with
   | .var x=>s.ae x
   | .cell n ag x=>(s.ae x).bind fun p=>(fP s.hp p).bind fun l=>partOf l 0 n ag
  match v?,dx s rest with
  | some v,some vs=>some (v::vs)
  | _,_=>none
def aW:List AV->AV
 | [v]=>v
 | vs=>.au vs
def dy (v:AV)(n:Nat)(s:aq):HR:=
 if v.top<=n && tight s.s.hp n s.wr then ⟨v,s.s.hp.take n,s.wr.filter (· < n)⟩
 else ⟨v,s.s.hp,s.wr.filter (· < n)⟩
def mj:List Nat->aq->Option aq
 | [],s=>some s
 | d::r,s=>match s.s.hp.at d with
   | some .hJ=>mj r ⟨{ s.s with hp:=s.s.hp.put d none },d::s.wr⟩
   | _=>none
def qC (s:St):List eZ->List AV->Option St
 | [],[]=>some s
 | d::ds,v::vs=>qC (s.put d v) ds vs
 | _,_=>none
def ix (run:ak->aq->Option (Ex×aq))(FT:FuncId->Option dv)(f:FuncId)(all:List AV)(h:aa):Option HR:=
 match FT f with
 | some fi=>
  if fi.N<all.length then none else
  match run fi.body ⟨⟨fi.aR.map (fun t=>(all[t]?).getD bD),[],h,[]⟩,[]⟩ with
  | some (e,s)=>
   if e = .normal\/e = .ret then
    match mj s.s.bV s with
    | some s=>match dx s.s fi.results with
      | some vs=>some (dy (aW vs) h.length s)
      | none=>none
    | none=>none
   else none
  | none=>none
 | none=>none
def iF (run:ak->aq->Option (Ex×aq))(ext:FuncId->List AV->aa->Option HR)(FT:FuncId->Option dv):dX:=fun g as h=>
 match g with
 | .fn (.func f) first cap=>
  match ext f (first++as++cap) h with
  | some r=>some r
  | none=>ix run FT f (first++as++cap) h
 | .fn (.yield b) [] []=>
  match h.at b with
  | some (.loop .ready none pe ps a bd)=>
   match qC ⟨pe,[],h,[]⟩ ps as with
   | some s0=>match run a ⟨s0,[]⟩ with
     | some (.normal,s1)=>match s1.s.hp.at b with
       | some (.loop .ready none pe' ps' a' bd')=>
        match run bd ⟨{ s1.s with hp:=s1.s.hp.put b (some (.loop .busy none pe' ps' a' bd')) },b::s1.wr⟩ with
        | some (e,s2)=>match s2.s.hp.at b,s2.s.bV with
          | some (.loop .busy none pe' ps' a' bd'),[]=>
           let o:ba:=if e = .normal then .loop .ready none pe' ps' a' bd' else .loop .done (some e) pe' ps' a' bd'
           some (dy (.bool (decide (e = .normal))) h.length ⟨{ s2.s with hp:=s2.s.hp.put b (some o) },b::s2.wr⟩)
          | _,_=>none
        | none=>none
       | _=>none
     | _=>none
   | none=>none
  | _=>none
 | _=>none
def bw (ext:FuncId->List AV->aa->Option HR)(inv:fQ)(FT:FuncId->Option dv):Nat->ak->aq->Option (Ex×aq)
 | 0,_,_=>none
 | n+1,c,s=>
  match c with
  | .skip=>some (.normal,s)
  | .seq a b=>match bw ext inv FT n a s with
    | some (.normal,s')=>bw ext inv FT n b s'
    | r=>r
  | .cond x a b=>match s.s.ae x with
    | some (.bool t)=>bw ext inv FT n (if t then a else b) s
    | _=>none
  | .block id c=>match bw ext inv FT n c s with
    | some (.exit id',s')=>if id'=id then some (.normal,s') else some (.exit id',s')
    | r=>r
  | .loop c=>match bw ext inv FT n c s with
    | some (.normal,s')=>bw ext inv FT n (.loop c) s'
    | r=>r
  | .exit id=>some (.exit id,s)
  | .ret=>some (.ret,s)
  | .region ops=>match ek (iF (bw ext inv FT n) ext FT) inv ops ⟨{ s.s with lo:=[] },s.wr⟩ with
    | some s'=>some (.normal,s')
    | none=>none
  | .draw ops=>match dI (iF (bw ext inv FT n) ext FT) inv ops ⟨{ s.s with lo:=[] },s.wr⟩ [] with
    | some s'=>some (.normal,s')
    | none=>none
  | .rangeFunc inner f ps a b=>
   if inner then none else
   match s.s.ae f with
   | some (.fn (.func g) fi ca)=>
    match ix (bw ext inv FT n) FT g (fi++[.fn (.yield (s.s.hp.length+1)) [] []]++ca) (s.s.hp++[some .hJ,some (.loop .ready none s.s.pe ps a b)]) with
    | some r=>match r.h.at (s.s.hp.length+1) with
      | some (.loop st pend pe' ps' a' b')=>
       if st = .busy then none else
       some (pend.getD .normal,⟨{ s.s with hp:=r.h.put (s.s.hp.length+1) (some (.loop .exhausted pend pe' ps' a' b')),bV:=s.s.hp.length::s.s.bV },(s.s.hp.length+1)::r.wr++s.wr⟩)
      | _=>none
    | none=>none
   | _=>none
  | .bad=>none
end Go.Ab
namespace Go.Ab
structure GQ (Q:Prop):Prop where
 q:Q
theorem gc {P Q:Prop}(q:Q)(h:GQ Q->P:=by
 intro gq;first|apply afc|apply cV|apply afl|apply afm|apply ain|apply agR|apply alL|apply agH|apply ku|apply vJ|apply oI|apply sA|apply vK|(apply SL;exact rfl)|apply SM|apply SN|apply vM|apply sB|(apply amR;exact rfl)|apply ajJ|apply ajN|(apply anz;exact rfl)|(apply ajP;exact rfl)|(apply akp;exact rfl;exact rfl;(first|(simp only[List.nil_append,List.cons_append];exact rfl)|exact rfl))|(apply alX;exact rfl;(first|(simp only[List.nil_append,List.cons_append];exact rfl)|exact rfl);(first|(simp only[List.nil_append,List.cons_append];exact rfl)|exact rfl))|(apply alY;exact rfl)|(apply afH;exact rfl)|(apply ahB;exact rfl)|(apply ahY;exact rfl)|(apply ajK;exact rfl)|(apply ait;exact rfl)|(apply alM;exact rfl)|(apply amp;exact rfl)|(apply amq;exact rfl;omega)|(apply amr;exact rfl;omega)|(apply ahR;exact rfl;exact rfl)|(apply ahX;exact rfl;exact rfl)|(apply ajM;exact rfl;exact rfl;omega)|(apply aku;exact rfl;exact rfl;omega)|(apply ams;exact rfl;exact rfl;omega)|(apply amt;exact rfl;exact rfl;first|omega|(simp only[List.length_append,List.length_cons,List.length_nil];omega)|(simp;omega))|(apply ajQ;exact rfl;exact rfl;omega)|(apply alN;exact rfl;exact rfl;omega)|(apply alO;exact rfl;exact rfl;omega)|(apply amS;exact rfl;exact rfl;omega)|(apply agT;exact rfl;exact fun _=>rfl;(first|omega|(simp only[List.length_set];omega)|(simp;omega));decide;exact rfl;case ia=>infer_instance)|(apply ahJ;exact rfl;(first|exact rfl|assumption|exact cC|(apply cE;assumption)|(apply eu;first|assumption|(simp only[dQ];assumption)));exact fun _=>rfl;(first|omega|(simp only[List.length_set];omega)|(simp;omega));decide;exact rfl;case ia=>infer_instance)|(apply anA;exact rfl;exact fun _=>rfl;(first|omega|(simp only[List.length_set];omega)|(simp;omega));decide;exact rfl;case ia=>infer_instance)|(apply amT;exact rfl;omega)|(apply afC;exact rfl;exact rfl;exact rfl)|(apply aiq;exact rfl;exact rfl;exact rfl)|(apply alP;exact rfl;exact rfl;exact rfl)|(apply abL;exact rfl;exact rfl)|(apply afx;exact rfl;exact rfl)
 exact gq.1):P:=h ⟨q⟩
theorem gd0 {P Q:Prop}(q:Q)(h:GQ Q->P:=by
 intro gq
 (apply acq;exact rfl;exact rfl;first|(focus (apply_assumption -exfalso -symm;done))|(focus (apply_assumption -exfalso -symm;exact Is rfl rfl rfl))|(focus (apply_assumption -exfalso -symm;exact rfl)))
 exact gq.1):P:=h ⟨q⟩
theorem gd1 {P Q:Prop}(q:Q)(h:GQ Q->P:=by
 intro gq
 (apply ajU;exact rfl;exact rfl;(first|(simp only[List.nil_append,List.cons_append];exact rfl)|exact rfl);first|(focus (apply_assumption -exfalso -symm;done))|(focus (apply_assumption -exfalso -symm;exact Is rfl rfl rfl))|(focus (apply_assumption -exfalso -symm;exact rfl)))
 exact gq.1):P:=h ⟨q⟩
theorem gd2 {P Q:Prop}(q:Q)(h:GQ Q->P:=by
 intro gq
 (apply akO;exact rfl;(first|exact cC|assumption|exact cE cC|exact cE (cE cC)|exact cE (cE (cE cC))|exact eu be|((repeat apply cE);assumption));exact rfl)
 exact gq.1):P:=h ⟨q⟩
theorem gd3 {P Q:Prop}(q:Q)(h:GQ Q->P:=by
 intro gq
 (apply amu;exact rfl;exact rfl;exact⟨rfl,by first|exact Nat.le_refl _|decide|(simp[overwrite]),rfl⟩;exact rfl)
 exact gq.1):P:=h ⟨q⟩
theorem gd4 {P Q:Prop}(q:Q)(h:GQ Q->P:=by
 intro gq
 (apply alw;exact rfl;exact rfl;omega)
 exact gq.1):P:=h ⟨q⟩
theorem gd5 {P Q:Prop}(q:Q)(h:GQ Q->P:=by
 intro gq
 (apply alZ;exact rfl;exact rfl;omega)
 exact gq.1):P:=h ⟨q⟩
theorem gd6 {P Q:Prop}(q:Q)(h:GQ Q->P:=by
 intro gq
 (apply afJ;exact rfl;exact rfl;first|exact q)
 exact gq.1):P:=h ⟨q⟩
theorem gd7 {P Q:Prop}(q:Q)(h:GQ Q->P:=by
 intro gq
 (apply afG;exact rfl;exact rfl;exact rfl;exact⟨rfl,Nat.le_refl _,by simp[overwrite,gM,jC,o5,o6]⟩;exact rfl)
 exact gq.1):P:=h ⟨q⟩
theorem gd8 {P Q:Prop}(q:Q)(h:GQ Q->P:=by
 intro gq
 (apply ahJ (f:=cw 1 w) (c:=rs) (e:=38);exact rfl;exact hout;exact fun _=>rfl;omega;decide;exact rfl)
 exact gq.1):P:=h ⟨q⟩
theorem gd9 {P Q:Prop}(q:Q)(h:GQ Q->P:=by
 intro gq
 (apply akZ;exact congrArg (fun z=>some (AV.ptr 0 z)) eI;exact rfl;exact rfl;omega)
 exact gq.1):P:=h ⟨q⟩
theorem gd10 {P Q:Prop}(q:Q)(h:GQ Q->P:=by
 intro gq
 (apply afJ;exact rfl;exact rfl;first|exact hc)
 exact gq.1):P:=h ⟨q⟩
theorem gd12 {P Q:Prop}(q:Q)(h:GQ Q->P:=by
 intro gq
 (apply afG;exact rfl;exact rfl;exact rfl;exact⟨rfl,Nat.le_refl _,mX o0⟩;exact rfl)
 exact gq.1):P:=h ⟨q⟩
theorem gd13 {P Q:Prop}(q:Q)(h:GQ Q->P:=by
 intro gq
 (apply alQ;exact rfl;exact rfl;exact rfl)
 exact gq.1):P:=h ⟨q⟩
theorem gd14 {P Q:Prop}(q:Q)(h:GQ Q->P:=by
 intro gq
 (apply aia (s:=u) (r:=bot);exact rfl;exact rfl;omega;exact e2')
 exact gq.1):P:=h ⟨q⟩
theorem gd15 {P Q:Prop}(q:Q)(h:GQ Q->P:=by
 intro gq
 (apply afJ;exact rfl;exact rfl;first|exact q1 _)
 exact gq.1):P:=h ⟨q⟩
theorem gd16 {P Q:Prop}(q:Q)(h:GQ Q->P:=by
 intro gq
 (apply ahJ (f:=cF) (e:=133);exact rfl;exact hrow;exact fun _=>rfl;omega;decide;exact rfl)
 exact gq.1):P:=h ⟨q⟩
theorem gd17 {P Q:Prop}(q:Q)(h:GQ Q->P:=by
 intro gq
 (apply agT (f:=fS) (c:=l);exact rfl;exact fun _=>rfl;omega;decide;exact rfl)
 exact gq.1):P:=h ⟨q⟩
theorem gd18 {P Q:Prop}(q:Q)(h:GQ Q->P:=by
 intro gq
 (apply akw (a:=4294967296);exact rfl;exact rfl;omega)
 exact gq.1):P:=h ⟨q⟩
theorem gd19 {P Q:Prop}(q:Q)(h:GQ Q->P:=by
 intro gq
 (apply akw (a:=q) (b:=y0);exact rfl;exact rfl;rw[←hP];exact hm)
 exact gq.1):P:=h ⟨q⟩
theorem gd20 {P Q:Prop}(q:Q)(h:GQ Q->P:=by
 intro gq
 (apply aib (s:=u) (r:=top);exact rfl;exact rfl;omega;exact etk)
 exact gq.1):P:=h ⟨q⟩
theorem gd21 {P Q:Prop}(q:Q)(h:GQ Q->P:=by
 intro gq
 (apply ahJ (f:=cw 4 w) (c:=rs) (e:=127);exact rfl;exact hout;exact fun _=>rfl;omega;decide;exact rfl)
 exact gq.1):P:=h ⟨q⟩
theorem gd22 {P Q:Prop}(q:Q)(h:GQ Q->P:=by
 intro gq
 (apply alE (i:=k+2);exact rfl;exact hl;omega;omega)
 exact gq.1):P:=h ⟨q⟩
theorem gd23 {P Q:Prop}(q:Q)(h:GQ Q->P:=by
 intro gq
 (apply afG;exact rfl;exact rfl;exact rfl;exact⟨rfl,Nat.le_refl _,by first|exact mX o1|exact mX o2⟩;exact rfl)
 exact gq.1):P:=h ⟨q⟩
theorem gd24 {P Q:Prop}(q:Q)(h:GQ Q->P:=by
 intro gq
 (apply ahJ (f:=fS) (e:=75);exact rfl;exact hrow;exact fun _=>rfl;omega;decide;(exact congrArg (fun s=>some (AV.str s)) fi))
 exact gq.1):P:=h ⟨q⟩
theorem gd25 {P Q:Prop}(q:Q)(h:GQ Q->P:=by
 intro gq
 (apply acq;exact rfl;exact rfl;first|exact C.lj _ _ _|exact q101 _|exact q96 _ _ BI)
 exact gq.1):P:=h ⟨q⟩
theorem gd26 {P Q:Prop}(q:Q)(h:GQ Q->P:=by
 intro gq
 (apply afG;exact rfl;exact rfl;exact rfl;exact⟨rfl,Nat.le_refl _,by simp[overwrite,gM,jC,o1]⟩;exact rfl)
 exact gq.1):P:=h ⟨q⟩
theorem gd27 {P Q:Prop}(q:Q)(h:GQ Q->P:=by
 intro gq
 (apply amu;exact rfl;exact rfl;exact⟨rfl,am,sE _⟩;exact rfl)
 exact gq.1):P:=h ⟨q⟩
theorem gd28 {P Q:Prop}(q:Q)(h:GQ Q->P:=by
 intro gq
 (apply agT (f:=bB fS) (c:=m);exact rfl;exact fun _=>rfl;omega;decide;exact rfl)
 exact gq.1):P:=h ⟨q⟩
theorem gd29 {P Q:Prop}(q:Q)(h:GQ Q->P:=by
 intro gq
 (apply acq;exact rfl;exact rfl;first|exact C.lj _ _ _|exact q96 _ _ BI)
 exact gq.1):P:=h ⟨q⟩
theorem gg0 {P:Prop}(h:P:=by
 repeat' first|(apply afx (op:=.index _ _) (v:=.int .u8 48);rfl;rfl)|(apply abd;rfl;rfl)|(apply aib (s:=oM);rfl;rfl;omega;exact hd)|(apply aev;rfl;rfl)|refine gd13 ?_|(apply amq (a:=1);rfl;omega)|(apply acr;rfl;rfl)|refine gd1 ?_|(apply aeJ;rfl;rfl)|refine gd0 ?_|(apply agV;rfl;rfl)|(apply aiZ;rfl;rfl)|refine gc ?_|(apply acq;rfl;rfl;exact q72 _ _ (alx rfl))|(intro _;omega)|intro _
 all_goals first|omega|exact⟨.inr rfl,rfl,_,rfl,rfl,rfl⟩|exact cN rfl rfl (.same rfl rfl)|exact hQ _ _|exact⟨.inr rfl,rfl,_,rfl,.same (by simp[aW,AV.top,bc,ib]) (by simp[aW,bL,cG,mY])⟩|exact hQ L re _ _ hL oL hre (by rw[hv];simp[WV])|exact hQ U L _ _ hU oU hL oL hv1 hv2|exact hQ _ _ _ _ _ _ _ _ _ _ _ hm h8 hL hw|exact hQ _ _ _ hB hK|exact h2 (by rw[hd,Int.sub_self];rfl) _ _|exact hQ L re _ _ _ hL oL hre (by rw[hv];simp[WV])|exact hQ U L K _ _ _ _ _ _ _ _ _ _ _ hU oU hL oL hv1 hv2 hKu hKq hKf|exact hQ _ _ _ _ _ _ q0 I.ge hfin|exact⟨.inr rfl,rfl,_,rfl,.same rfl rfl⟩|exact h1 (by simp[fU]) _ _ _|exact h1 (by simp[fU]) _ _|exact hQ L c a5 a6 _ _ hl bT hc (hz _ (Nat.le_refl _)) hv|exact hQ L c a5 a6 _ _ hl bT hc hv|exact hQ L c a7 a8 a9 aA aB _ _ hl bT hc hz hv|exact hQ L bo ca _ _ _ _ _ _ hL oL ht hbo hca hw hv|exact hQ L ca _ _ _ hL oL ht hca hw hv|exact hQ D _ _ _ hD oD hv|exact h2 ac _ _|exact h2 he _ _ _|exact iO (ih' _ _ _ ac hQ)|exact hQ L c _ _ _ hl bT hc hz hv|exact hQ L bo _ _ _ _ hL oL hbo hv|exact hQ L ca _ _ _ hL oL hca hv|exact hN _ _ _ _ _ _ hl hH hO|exact hQ K A' _ _ _ _ hM hA (fun a ha=>by have:=hI a ha;rw[if_pos ha]at this;exact this) hX|exact hQ K r' _ _ _ hM hr (fun j hj=>by have:=hq j hj;rw[if_pos hj]at this;exact this) hK|exact hQ K r' _ _ _ hM hr (fun j hj=>by have:=hq j hj;rw[if_pos hj]at this;exact this) hX|exact hQ K A' _ _ _ _ _ _ _ hM hA (fun a ha=>by have:=hI a ha;rw[if_pos ha]at this;exact this) hKl|exact hS q' hs K rs A _ _ _ _ _ _ _ _ _ _ _ _ _ _ _ _ _ hM hA hq hr hK|exact hQ K rs o _ _ hR hO|exact next _ _ _|exact hQ _ _ _ _ _ _ _ _ x hx e|exact⟨.inr rfl,rfl,_,rfl,[],a,⟨jf,kA,(Int.ediv_eq_zero_of_lt a0 hlt).symm⟩,⟨oa,na,(Int.emod_eq_of_lt a0 hlt).symm⟩,lv.less⟩|exact⟨.inr rfl,rfl,_,rfl,rfl,ite_self _⟩|exact⟨.inr rfl,rfl,_,rfl,congrArg AV.bool (by simp[isName, *] <;> omega),rfl⟩|exact h1 _ _ _ (by rw[bz,if_pos ac]) _|exact bW ⟨_,_,rfl,ha'⟩|exact h1 _ _ _ (by rw[bz,if_neg ac,if_pos ac]) _|exact iO (ih _ _ _ ac hd2 h1 h2)|exact⟨.inr rfl,rfl,_,rfl,SR hE am _⟩|exact bW ⟨_,_,_,_,rfl,ha' rfl⟩):P:=h
theorem gg1 {P:Prop}(h:P:=by
 repeat' first|refine gd12 ?_|(rw[hg])|(refine fin 0 _ _ ac (by rw[←he];rfl))|refine gd15 ?_|(apply aev;rfl;rfl)|refine gd3 ?_|refine gd13 ?_|refine gd10 ?_|refine gd0 ?_|refine gd6 ?_|refine gc ?_|(apply acq;rfl;rfl;exact q206 _ _ _ _ rfl)|(intro _;omega)|intro _
 all_goals first|omega|exact⟨.inr rfl,rfl,_,rfl,rfl,rfl⟩|exact hQ _|exact⟨.inr rfl,rfl,⟨_,rfl⟩,be,_,vP rfl cC,rfl⟩|exact cN rfl rfl (out _)|exact cN rfl rfl (fin _ _)|exact cN rfl rfl (.same rfl rfl)|exact hQ _ _ _ _ _ _ _ _ ho|exact⟨.inr rfl,rfl,⟨[],be⟩,be,_,rfl,rfl⟩|exact hQ _ _ _ _ _ _ _ ho|exact⟨.inl rfl,rfl,_,rfl,hw,hL⟩|exact hQ _ _ _ _ _ _ _ _ ho'|exact hQ _ _ _ _ _ _ hv|exact hQ _ _ _ _ _ _ h9 hDt oA ac hv ho hK|exact main false _ _ (fun e st h=>by rw[e1];exact h)|exact⟨.inr rfl,rfl,_,rfl,A,oA,nA,hv,fin⟩|exact⟨.inr rfl,rfl,_,rfl,xA,A,hxA,oA,nA,hv,lA,fin⟩):P:=h
theorem gg2 {P:Prop}(h:P:=by
 repeat' first|(apply aid (L:=V) (m:=i) (v:=y);rfl;omega;omega;exact hy.symm)|(apply amv (i:=i);rfl;exact hl;omega;omega)|(apply amw (i:=i);rfl;rfl;exact hl;omega;omega)|(apply ama (v:=w);exact congrArg (fun z=>some (AV.ptr 0 z)) eI;rfl;omega;exact hw.symm)|(apply alR;exact congrArg (fun z=>some (AV.ptr 0 z)) eI;rfl;rfl;omega)|(apply agV;rfl;rfl)|(apply amU;rfl;rfl;omega;intro _ _)|(apply amV;rfl;rfl;omega;omega;intro _ _)|(apply amW (r:=[dR (q%10)]);rfl;rfl;rfl;(simp only[List.length_cons,List.length_nil];omega);exact ec')|(apply alS;rfl;rfl;omega;omega)|(apply amb;rfl;rfl;omega;omega)|(apply abd;rfl;rfl)|(apply aev;rfl;rfl)|refine gc ?_|(intro _;omega)|intro _
 all_goals first|omega|exact⟨.inr rfl,rfl,_,rfl,rfl,rfl⟩|exact⟨.inr rfl,rfl,_,rfl,by rw[List.drop_zero]at h;rw[h];rfl,rfl⟩|exact⟨.inr rfl,rfl,rfl,rfl,_,rfl,rfl⟩|exact⟨.inr rfl,rfl,⟨[],be⟩,be,_,rfl,rfl⟩|exact⟨.inr rfl,rfl,_,rfl,congrArg AV.bool (by simp[isName,h]),rfl⟩|exact next _ _ _|exact next _ _ _ _ _ ac ac ac|exact⟨.inr rfl,rfl,_,rfl,rfl,by simp[AV.top,bc]⟩|exact⟨.inr rfl,rfl,_,rfl,key z,rfl⟩|exact⟨.inr rfl,rfl,_,rfl,k,rfl⟩|exact cN rfl rfl (.same rfl rfl)|exact⟨.inr rfl,rfl,_,rfl,q,rfl,rfl,g1,g2,g3⟩|exact hR am _ _ _ _ _ _ _ _ _|exact bW (hN h00 _ _ _ _ _ _ _ _ _ hlA hH' ho')|exact⟨.inr rfl,rfl,_,rfl,SR (hE.trans h) he _⟩|exact⟨.inr rfl,rfl,_,rfl,_,.inr ⟨hE.trans h,A,hl,hH,rfl⟩,aly hO ac⟩|exact next _ _ _ _ _ _ hM' (by rw[List.length_set];exact hA) (hX.trans hX') fin|exact next _ _ _ _ _ _ _ _ hM' (by rw[List.length_set];exact hA) ac fin|exact hS i hp K5 rs2 A5 _ _ _ _ _ _ _ _ _ _ _ _ _ hM5 hA5 hq5 er ac|exact bW ⟨K,rs',A',_,_,_,_,_,_,_,_,_,_,_,_,_,_,_,_,rfl,hM',hA',hq',dq.step hc ac ac hps.2.2,hr',hK',hs.trans es⟩|exact⟨.inr rfl,rfl,_,rfl,pL r hs hg⟩|exact⟨.inr rfl,rfl,_,rfl,pS r hs hg _ _ _ hO⟩|exact bW ⟨A%B,ac,B,A%B,_,_,rfl,rfl,ac,ac,hn⟩|exact fin _ _):P:=h
theorem gg3 {P:Prop}(h:P:=by
 repeat' first|(apply aia (r:=t);rfl;rfl;omega;exact e1)|(apply anB;rfl)|(exact Iw C ⟨hp,ac⟩ hs.1 _ _ _ _)|(exact tl _ _ _ _)|(apply amX (v:=D);rfl;rfl;omega;omega;exact hD.symm)|(apply amY (v:=R);rfl;rfl;omega;omega;exact hR.symm)|(refine bj.app (f:=iC) (m:=[R]) (S:=[]) (fun _=>rfl) (fun _=>rfl) am (ho.grow [_]) be rfl rfl (Sl.gN (f:=iC) (esz:=1) (l:=[R]) (e:=3) (fun _=>rfl) cC rfl) hroom (fun H w' o' ho' hk hlen=>?_))|(apply abd;rfl;rfl)|(apply aev;rfl;rfl)|(apply acr;rfl;rfl)|refine gd0 ?_|refine gd3 ?_|refine gd2 ?_|refine gc ?_|(intro _;omega)|intro _
 all_goals first|omega|exact⟨.inr rfl,rfl,_,rfl,rfl,rfl⟩|exact cN rfl rfl (.same rfl rfl)|exact cN rfl rfl (out _)|exact jE (.inr rfl) rfl rfl rfl rfl|exact hN (fun h=>absurd h (Nat.lt_irrefl 0)) _ _|exact h1 he _ _ _|exact iO (ih (i+1) _ _ _ ac he h1 h2)|exact⟨.inr rfl,rfl,_,rfl,acc,⟨oA,hv,ac⟩,ie.Ix ho⟩|exact⟨.inr rfl,rfl,_,rfl,congrArg AV.bool (by simp[isName];omega),rfl⟩|exact bW ⟨_,_,_,rfl,ha'⟩|exact bW ⟨n+1-(i+1),ac,i+1,acc++[R],o',D,_,_,_,_,rfl,rfl,ac,hD0,ac,jV oA (fun z hz=>by rw[List.mem_singleton.1 hz];exact⟨ac,by show _<(1000000000:Int);omega⟩),by simp[lA],ho',hval⟩|exact bW ⟨_,_,_,_,rfl,ha' hz⟩):P:=h
theorem gg4 {P Q:Prop}(q:Q)(h:GQ Q->P:=by
 intro gq;repeat' first|(apply amx;rfl;exact hkl;omega)|(apply amy;rfl;rfl;exact hkl;omega)|(apply akx;exact congrArg (fun z=>some (AV.ptr hp.length z)) eI;exact cC;omega)|(apply amc (n:=s);rfl;rfl;rfl;omega)|(apply amz s;rfl;rfl;exact⟨gL.1,hlt⟩;exact hm;omega;exact hd)|(apply amA;exact congrArg (fun z=>some (AV.ptr hp.length z)) eI;rfl;omega)|(apply amA;exact congrArg (fun z=>some (AV.ptr hp.length z)) eJ;rfl;(rw[List.length_set];omega))|(apply alF (n:=64-s);rfl;rfl;omega;omega)|(apply alQ;rfl;exact hb;exact hpart)|(apply amZ;rfl;rfl;omega)|(apply abd;rfl;rfl)|refine gd6 ?_|(apply aev;rfl;rfl)|refine gc ?_|(intro _;omega)|intro _|(omega)|exact gq.1):P:=h ⟨q⟩
theorem gg5 {P:Prop}(h:P:=by
 repeat' first|(apply aia (r:=t);rfl;rfl;omega;exact e')|(apply amd;rfl;rfl;omega)|(apply ame;rfl)|(apply afG;rfl;rfl;rfl;exact⟨rfl,Nat.le_refl _,by simp[overwrite,gM,jC,o4]⟩;rfl)|(exact tl _ _ _ _ _)|(apply aia (s:=s) (r:=u);rfl;rfl;omega;exact hc1)|refine gd20 ?_|(apply agL;rfl;rfl;all_goals first|(intro h;exact absurd h hz)|intro _)|(apply akx;exact congrArg (fun z=>some (AV.ptr b z)) ei;exact hb;omega)|(refine fin (r+1) _ _ ac (by rw[←he,e]))|(apply aev;rfl;rfl)|(apply aeJ;rfl;rfl)|refine gd0 ?_|refine gc ?_|(intro _;omega)|intro _
 all_goals first|omega|exact⟨.inr rfl,rfl,_,rfl,rfl,rfl⟩|exact fin s2 so w2 wo _ _ (i+i) j h2 ho (by rw[Nat.add_mul];omega)|exact hQ _):P:=h
theorem gg6 {P Q:Prop}(q:Q)(h:GQ Q->P:=by
 intro gq;repeat' first|(rw[hg])|(apply aib (r:=t);rfl;rfl;omega;(rw[show (((t++[c]).length:Int)-1).toNat=t.length by omega];simp))|(apply aia (r:=s);rfl;rfl;omega;rfl)|(apply aib (r:=x);rfl;rfl;omega;(rw[Int.toNat_natCast];exact h2))|(apply aia (r:=y);rfl;rfl;omega;(rw[show ((x.length:Int)+(([b]:ah).length:Int)).toNat=x.length+1 by omega];exact h3))|refine gd5 ?_|(apply akw;rfl;rfl;omega)|refine gd4 ?_|refine gd18 ?_|refine gd19 ?_|(apply aev;rfl;rfl)|(apply agV;rfl;rfl)|refine gd10 ?_|refine gc ?_|(intro _;omega)|intro _|(omega)|exact gq.1):P:=h ⟨q⟩
theorem gg7 {P:Prop}(h:P:=by
 repeat' first|(exact ID C hN hx1 hy1 ol1 om1 nl1 nm1 ll1 lm1 hm1 _ _ _ _ _ _ _ _)|(apply afG;rfl;rfl;rfl;exact⟨rfl,Nat.le_refl _,by first|exact mX o1|exact mX o2|exact mX o3|exact mX o4⟩;rfl)|(exact ID C hN hx hy ol om nl nm ll lm hm _ _ _ _ _ _ _ _)|(exact tl _ _ _ _ _ _ _ _ _)|(refine bj.app (f:=jW) (m:=[zs++[48]]) (S:=[1]) (fun _=>rfl) (fun _=>rfl) am (ho.grow [_]) (by simp;omega) rfl rfl (Sl.gN (f:=jW) (esz:=1) (l:=[zs++[48]]) (e:=9) (fun _=>rfl) cC rfl) hroom (fun H w' o' ho' hk hlen=>?_))|(apply ana;rfl;rfl;exact hc)|refine gd23 ?_|(apply aev;rfl;rfl)|refine gd13 ?_|refine gd1 ?_|refine gd0 ?_|(apply acq;rfl;rfl;first|exact q253|exact q264 _)|refine gd2 ?_|refine gc ?_|(intro _;omega)|intro _
 all_goals first|omega|exact⟨.inr rfl,rfl,_,rfl,rfl,rfl⟩|exact cN rfl rfl (.same rfl rfl)|exact fin _ _ _ _ _ _ _ ho' (hk _ _ be (cE hK))):P:=h
theorem gg8 {P Q:Prop}(q:Q)(h:GQ Q->P:=by
 intro gq;repeat' first|(apply afJ;rfl;rfl;first|exact q1|exact q2)|(apply anb;rfl)|(apply anc (v:=(u:Int));rfl;omega)|(apply amf (L:=oT) (n:=fV u);rfl;exact hz24;rfl;rfl;omega)|(apply alT (L:=L') (c:=45);rfl;rfl;omega)|(apply amg (L:=L'.set (0+0*1) 45) (n:=1+fV u);rfl;(rw[List.length_set];exact hl);rfl;omega;omega)|(apply amh (L:=L'.set (0+0*1) 45);rfl;(rw[List.length_set];omega))|(apply abd;rfl;rfl)|(apply acr;rfl;rfl)|(apply aiZ;rfl;rfl)|(apply aeJ;rfl;rfl)|refine gd0 ?_|(apply afJ;rfl;rfl;first|exact q306)|refine gc ?_|(intro _;omega)|intro _|(omega)|exact gq.1):P:=h ⟨q⟩
theorem gg9 {P:Prop}(h:P:=by
 repeat' first|(exact tl _ _ _ _ _ _ _ _ _ _)|(apply alU;rfl;rfl;exact hl;exact hy.1)|(apply amB;rfl;rfl;exact hl.1;exact hy.1)|refine gd1 ?_|(apply alE (i:=k);rfl;exact hl;omega;omega)|(apply alG (i:=k);rfl;exact hb;exact hne;omega;omega)|(apply alG (i:=k+1);rfl;exact hb;exact hne;omega;omega)|refine gd5 ?_|(apply abd;rfl;rfl)|(apply aiZ;rfl;rfl)|(apply aeJ;rfl;rfl)|refine gd2 ?_|refine gd0 ?_|refine gc ?_|(intro _;omega)|intro _
 all_goals first|omega|exact⟨.inr rfl,rfl,_,rfl,rfl,rfl⟩|exact cN rfl rfl (.same rfl rfl)|exact⟨.inr rfl,rfl,_,rfl,by rw[Int.zero_mul,Int.zero_add];rfl,rfl⟩|exact h1 ac _ _|exact iO (ih (i+1) _ _ _ ac ac h1 h2)|exact hQ _ _ _ _ _ _ q0 I.ge hfin|exact bW ⟨(q-1).toNat,ac,q-1,_,_,_,_,_,rfl,rfl,by rw[e1];exact I2,ac,ac⟩):P:=h
theorem gg10 {P:Prop}(h:P:=by
 repeat' first|refine gd1 ?_|(apply amC (s:=we);rfl;rfl;rfl;omega;exact hc)|(refine bj.app (f:=iC) (m:=[a[((i:Int)).toNat]! - y-c+1000000000]) (S:=[]) (fun _=>rfl) (fun _=>rfl) am (ho.grow [_]) be rfl rfl (Sl.gN (f:=iC) (esz:=1) (l:=[a[((i:Int)).toNat]! - y-c+1000000000]) (e:=3) (fun _=>rfl) cC rfl) hroom (fun H w' o' ho' hk hlen=>?_))|(refine bj.app (f:=iC) (m:=[a[((i:Int)).toNat]! - y-c]) (S:=[]) (fun _=>rfl) (fun _=>rfl) am (ho.grow [_]) be rfl rfl (Sl.gN (f:=iC) (esz:=1) (l:=[a[((i:Int)).toNat]! - y-c]) (e:=3) (fun _=>rfl) cC rfl) hroom (fun H w' o' ho' hk hlen=>?_))|(apply amC (s:=jX);rfl;rfl;rfl;omega;exact hc)|(apply amx;rfl;exact hkl;omega)|(apply amy;rfl;rfl;exact hkl;omega)|(apply alR;exact congrArg (fun z=>some (AV.ptr bq z)) eP;rfl;exact hq2;omega)|(apply abd;rfl;rfl)|(apply acq;rfl;rfl;first|exact q250)|refine gd6 ?_|(apply afJ;rfl;rfl;first|exact q1)|(apply afJ;rfl;rfl;first|exact q0)|refine gc ?_|(intro _;omega)|intro _
 all_goals first|omega|exact⟨.inr rfl,rfl,_,rfl,rfl,rfl⟩|exact cN rfl rfl (.same rfl rfl)|exact⟨.inr rfl,rfl,⟨[],be⟩,be,_,rfl,rfl⟩|exact⟨.inr rfl,rfl,_,rfl,[],⟨jf,kA,rfl⟩,ie.zero rfl⟩|exact next _ 1 _ _ _ _ _ ho' am ac ac|exact next _ 0 _ _ _ _ _ ho' am ac ac|exact⟨.inr rfl,rfl,_,rfl,_,⟨g1,g2,by rw[g3,hv]⟩,hout⟩|exact⟨.inr rfl,rfl,_,rfl,[],⟨jf,kA,hv⟩,ie.Ix (S:=[]) (.inr ⟨k,cap,be,rfl,hk,hcap⟩)⟩|exact⟨.inr rfl,rfl,_,rfl,[],⟨jf,kA,hv⟩,_,.nil,rfl,rfl⟩|exact fin (q-1) _ L2 _ _ _ _ _ _ _ _ _ _ _ _ ⟨ac,ac⟩ hL2 oL2 hz0 vL2 hlt rfl|exact fin q _ L1 _ _ _ _ _ _ _ _ _ _ _ _ q0 hL1 oL1 hz0 vL1 hlt rfl):P:=h
theorem gg11 {P:Prop}(h:P:=by
 repeat' first|(apply aib (r:=t);rfl;rfl;omega;exact e')|(apply afG;rfl;rfl;exact hK;exact⟨rfl,Nat.le_refl _,by rw[List.all_cons,List.all_cons,List.all_nil,hone];rfl⟩;rfl)|(apply ajA;rfl;rfl;all_goals first|(intro h;exact absurd h h0)|intro _)|refine gd22 ?_|(apply alV (i:=k+2);rfl;rfl;exact hl;omega;omega)|(apply acr;rfl;rfl)|refine gd1 ?_|(apply aeJ;rfl;rfl)|refine gd0 ?_|(apply agL;rfl;rfl;all_goals first|(intro h;exact absurd h am)|(intro h;exact absurd rfl h)|(intro h;contradiction)|intro _)|(apply afJ;rfl;rfl;first|exact q196)|refine gc ?_|(apply afG;rfl;rfl;rfl;exact⟨rfl,Nat.le_refl _,by simp[overwrite,gM,jC,og,o3,o4]⟩;rfl)|(intro _;omega)|intro _
 all_goals first|omega|exact⟨.inr rfl,rfl,_,rfl,rfl,rfl⟩|exact cN rfl rfl (out _)|exact⟨.inr rfl,rfl,_,vP rfl (eu hK1),v0,k0,o0⟩|exact⟨.inr rfl,rfl,_,rfl,q,_,fin,rfl,hw2,rfl⟩):P:=h
theorem gg12 {P:Prop}(h:P:=by
 repeat' first|(apply anf;rfl)|(apply aia;rfl;rfl;omega;exact h1)|refine gd0 ?_|(apply agL;rfl;rfl;all_goals first|(intro h;exact absurd rfl h)|intro _)|(refine bj.app (f:=jW) (m:=[zs++aS R]) (S:=[1]) (fun _=>rfl) (fun _=>rfl) am (ho.grow [_]) (by simp;omega) rfl rfl (Sl.gN (f:=jW) (esz:=1) (l:=[zs++aS R]) (e:=9) (fun _=>rfl) cC rfl) hroom (fun H w' o' ho' hk hlen=>?_))|(apply ami;exact congrArg (fun z=>some (AV.ptr b z)) ei;exact hb;omega)|(apply amj (k:=.i64) (r:=r);rfl;exact congrArg (fun z=>some (AV.int .i64 z)) er;omega;(intro c hc';have:=hc c hc';omega))|(apply ang (f:=iC) (l:=L);rfl;rfl;(intro _;rfl);omega)|(exact tl _ _ _ _ _ _)|(apply aia (r:=v);rfl;rfl;omega;exact e1)|(apply aev;rfl;rfl)|(apply aeJ;rfl;rfl)|(apply acq;rfl;rfl;first|exact q253|exact q263 _|exact q264 _)|refine gc ?_|(intro _;omega)|intro _
 all_goals first|omega|exact⟨.inr rfl,rfl,_,rfl,rfl,rfl⟩|exact⟨.inr rfl,rfl,rfl,rfl,_,rfl,rfl⟩|exact fin _ _ _ _ _ _ _ ho' (hk _ _ be (cE hK))|exact main true _ _ (fun e st h=>h)|exact iO (ih _ _ ac (e.symm.trans he) hQ)|exact hQ _|exact iO (next _)):P:=h
theorem gg13 {P:Prop}(h:P:=by
 repeat' first|(apply acq;rfl;rfl;first|exact hc)|refine gd5 ?_|refine gd4 ?_|refine gd18 ?_|refine gd19 ?_|(apply aid (L:=V) (m:=k) (v:=v0);rfl;omega;omega;exact hv0)|(apply aid (L:=U) (m:=j+k) (v:=t0);rfl;omega;omega;exact ht0)|(apply aev;rfl;rfl)|(apply aib;rfl;rfl;omega;exact hd)|(apply agL;rfl;rfl;intro _;rotate_left;(intro h;exact absurd rfl h))|(apply agL;rfl;rfl;(intro h;exact absurd (List.cons.inj h).1 hc);intro _)|(apply agV;rfl;rfl)|refine gc ?_|(intro _;omega)|intro _
 all_goals first|omega|exact iO (ih _ _ _ ac I2 ac)|exact⟨.inr rfl,rfl,_,rfl,rfl,rfl⟩|exact⟨.inr rfl,rfl,rfl,rfl,_,rfl,rfl⟩|exact hQ _ _ _ _ ⟨q0.1,ac⟩ I.ge fin):P:=h
theorem gg14 {P Q:Prop}(q:Q)(h:GQ Q->P:=by
 intro gq;repeat' first|refine gd9 ?_|(apply aib (s:=s) (r:=X);rfl;rfl;omega;exact e1')|(apply aia (s:=s) (r:=Y);rfl;rfl;omega;exact e2')|refine gd1 ?_|refine gd23 ?_|(apply amg (L:=oT) (n:=fV u);rfl;exact hz;rfl;rfl;omega)|(apply amg (L:=L') (n:=fV u);rfl;exact hl;rfl;rfl;omega)|(apply amh (L:=L');rfl;omega)|(apply abd;rfl;rfl)|(apply aeJ;rfl;rfl)|refine gd0 ?_|(apply afJ;rfl;rfl;first|exact q280b|exact q276b|exact q280a)|(apply afJ;rfl;rfl;first|exact q306)|refine gc ?_|(intro _;omega)|intro _|(omega)|exact gq.1):P:=h ⟨q⟩
theorem gg15 {P:Prop}(h:P:=by
 repeat' first|refine gd14 ?_|(apply akx;exact congrArg (fun z=>some (AV.ptr 0 z)) eI;rfl;omega)|(exact tl _ _ _ _ _)|(apply alE (i:=i);rfl;exact hl;omega;omega)|refine gd9 ?_|(apply abd;rfl;rfl)|(apply alG (i:=i);rfl;exact hb;exact hne;omega;omega)|refine gd1 ?_|(apply alV (i:=i);rfl;rfl;exact hl;omega;omega)|refine gd0 ?_|(apply afG;rfl;rfl;rfl;exact⟨rfl,Nat.le_refl _,by simp[overwrite,gM,jC,o3,o4,o5,o6]⟩;rfl)|(apply alw (a:=m/18446744073709551616);rfl;rfl;omega)|(apply alw;rfl;rfl;exact⟨ac,ac⟩)|refine gc ?_|(intro _;omega)|intro _
 all_goals first|omega|exact next _ _ _ _|exact jE (.inr rfl) rfl rfl rfl rfl|exact next _ _ _ _ _ _ _|exact cN rfl rfl (out _)|exact next _ _ _ _ _|exact next _ _):P:=h
theorem gg16 {P:Prop}(h:P:=by
 repeat' first|(apply afJ;rfl;rfl;first|exact q266)|(exact tl _ _ _ _ _ _ _ _ _ _ _ _ _)|(apply anh;rfl;rfl;exact⟨rfl,Nat.le_refl _,by simp[overwrite,gM,o3]⟩;rfl)|(apply ani;rfl;rfl;simp;exact⟨rfl,Nat.le_refl _,by simp[overwrite,gM,o4]⟩;rfl)|(apply anj;rfl;simp;rfl)|(apply afG;rfl;rfl;rfl;exact⟨rfl,Nat.le_refl _,by simp[overwrite,gM,o2,o4]⟩;rfl)|(apply agL;rfl;rfl;all_goals first|(intro h;exact absurd hs h)|intro _)|(apply afG;rfl;rfl;exact hK;exact⟨rfl,Nat.le_refl _,rfl⟩;rfl)|(apply acr;rfl;rfl)|refine gd0 ?_|(apply afJ;rfl;rfl;first|exact q _)|refine gc ?_|(intro _;omega)|intro _
 all_goals first|omega|exact⟨.inr rfl,rfl,_,rfl,rfl,rfl⟩|exact next _ _ _ _|exact⟨.inr rfl,rfl,_,vP rfl (eu hK1),v0,k0,out _⟩):P:=h
theorem gg17 {P:Prop}(h:P:=by
 repeat' first|(apply ank;rfl;rfl;omega)|(apply alQ;rfl;exact hb;exact Ti)|(exact Tj C.tonO hl hne hb lk hX oX hV oV q g1 g2 g3 _ _ _ _ _ _ _ _ _ _ _ _ _ _ _ _ _ _)|refine gd1 ?_|refine gd9 ?_|(apply IG hn hlt)|(apply anl i (k+3);rfl;rfl;rfl;rfl;omega;omega;omega)|(apply afJ;rfl;rfl;first|exact hct)|(apply akZ;exact congrArg (fun z=>some (AV.ptr 2 z)) eI;rfl;rfl;omega)|(apply agV;rfl;rfl)|(apply afJ;rfl;rfl;first|exact q265)|refine gc ?_|(intro _;omega)|intro _
 all_goals first|omega|exact next _ _|exact⟨.inr rfl,rfl,rfl,rfl,_,rfl,rfl⟩|exact⟨i,ac,hin,rfl,hU,hL,hw⟩|exact iO (ih H _ _ ac hc' hB' ac)):P:=h
theorem gg18 {P:Prop}(h:P:=by
 repeat' first|(refine bj.app (f:=iC) (m:=[(0:Int)]) (S:=[0]) (fun _=>rfl) (fun _=>rfl) am (ho.grow [_]) be rfl rfl (Sl.gN (f:=iC) (esz:=1) (l:=[(0:Int)]) (e:=3) (fun _=>rfl) cC rfl) hroom (fun H w' o' ho' hk hlen=>?_))|(apply amD (v:=d);rfl;rfl;omega;exact hmod)|(apply abd;rfl;rfl)|(apply amk (v:=bP neg q);rfl;rfl;exact hrange;omega;exact hdiv)|refine gd3 ?_|(apply acr;rfl;rfl)|(refine bj.app (f:=iC) (m:=[0-d]) (S:=[0]) (fun _=>rfl) (fun _=>rfl) am (ho.grow [_]) be rfl rfl (Sl.gN (f:=iC) (esz:=1) (l:=[0-d]) (e:=3) (fun _=>rfl) cC rfl) hroom (fun H w' o' ho' hk hlen=>?_))|refine gd2 ?_|refine gc ?_|(apply acq;rfl;rfl;exact q101 _ _ (Is rfl rfl cC))|(intro _;omega)|intro _
 all_goals first|omega|exact cN rfl rfl (out _)|exact next _ _ _ _ ho' (hk 0 _ be (cE hK)) ac|exact fin _ e _ _ _ _ _ _ ho' (hk 0 _ be (cE hK))|exact hR _ _ _ _ _ _ _ _ _):P:=h
theorem gg19 {P Q:Prop}(q:Q)(h:GQ Q->P:=by
 intro gq;repeat' first|(apply alT (c:=dR V);rfl;exact(congrArg (fun z:Int=>some (AV.int .u8 z)) (show (48+(V:Int))%256=((dR V).toNat:Int) by rw[hd];omega));omega)|(apply aml;rfl;rfl;omega)|(apply amE;rfl)|(apply alH (v:=x);exact congrArg (fun z=>some (AV.ptr 1 z)) eI;rfl;omega;exact f0)|(apply alF (n:=s);rfl;rfl;rfl;omega)|(apply akZ;exact congrArg (fun z=>some (AV.ptr 1 z)) eI;rfl;rfl;omega)|(apply alH (v:=x/2^s);exact congrArg (fun z=>some (AV.ptr 1 z)) eI;rfl;(rw[List.length_set];omega);exact f1)|(apply alH (v:=z);exact congrArg (fun z=>some (AV.ptr 1 z)) eJ;rfl;(rw[List.length_set];omega);exact f2)|(apply amc (n:=64-s);rfl;rfl;omega;omega)|(apply amz (64-s);rfl;rfl;exact w1;exact w2;omega;exact w3)|(apply akZ;exact congrArg (fun z=>some (AV.ptr 1 z)) eI;rfl;rfl;(rw[List.length_set];omega))|(apply abd;rfl;rfl)|(apply aev;rfl;rfl)|refine gc ?_|(intro _;omega)|intro _|(omega)|exact gq.1):P:=h ⟨q⟩
theorem gg20 {P Q:Prop}(q:Q)(h:GQ Q->P:=by
 intro gq;repeat' first|(apply amF;rfl;rfl;exact⟨ac,ac,by unfold cz;omega,ac,rfl⟩)|(apply IG hn hlt)|(apply alT;rfl;rfl;(first|omega|(simp only[List.length_set];omega)))|(apply amB;rfl;rfl;omega;omega)|(apply alU;rfl;rfl;omega;omega)|(apply amG;rfl;omega)|(apply amH;rfl;rfl;omega;omega)|(apply amI;rfl;rfl;omega;omega)|(apply amJ;rfl;rfl;omega)|(apply aml;rfl;rfl;omega)|(apply alO (s:=jX);rfl;rfl;omega)|(apply agV;rfl;rfl)|refine gc ?_|(intro _;omega)|intro _|(omega)|exact gq.1):P:=h ⟨q⟩
end Go.Ab
namespace Go.Ab
abbrev zm (a b:Nat):aX:=⟨.l a,.mv (.p b),none⟩
abbrev zw (a b:Nat):aX:=⟨.p a,.mv (.l b),none⟩
abbrev zn (a b:Nat):aX:=⟨.l a,.mv (.l b),none⟩
abbrev zi (a:Nat)(n:Int):aX:=⟨.p a,.mv (.c (.int .i64 n)),none⟩
abbrev z1 (a f x:Nat):aX:=⟨.l a,.call (.c (.fn (.func f) [] [])) [.l x],none⟩
abbrev z2 (a f x y:Nat):aX:=⟨.l a,.call (.c (.fn (.func f) [] [])) [.l x,.l y],none⟩
abbrev ze (a i x:Nat):aX:=⟨.l a,.extract i (.l x),none⟩
abbrev za (a k x y:Nat):aX:=⟨.l a,.dw none k (.l x) (.l y),none⟩
abbrev zd (a n x:Nat):aX:=⟨.l a,.load n false (.l x),none⟩
abbrev zt (a n x:Nat):aX:=⟨.l a,.load n true (.p x),none⟩
abbrev zT (a n x:Nat):aX:=⟨.l a,.load n true (.l x),none⟩
abbrev zs (n a x:Nat):aX:=⟨.no,.store n (.p a) (.l x),none⟩
abbrev zS (n a x:Nat):aX:=⟨.no,.store n (.l a) (.l x),none⟩
abbrev zf (a n x:Nat):aX:=⟨.l a,.jA n (.p x),none⟩
abbrev zl (a x:Nat):aX:=⟨.l a,.len .sl (.l x),none⟩
abbrev zL (a x:Nat):aX:=⟨.l a,.len .str (.l x),none⟩
abbrev zb (a:Nat)(o:BinOp)(x y:Nat):aX:=⟨.l a,.bin o (.l x) (.l y),none⟩
abbrev zc (a:Nat)(o:BinOp)(x:Nat)(n:Int):aX:=⟨.l a,.bin o (.l x) (.c (.int .i64 n)),none⟩
abbrev zq (a:Nat)(o:BinOp)(x:Nat)(n:Int):aX:=⟨.l a,.bin o (.p x) (.c (.int .i64 n)),none⟩
abbrev zr (a:Nat)(o:BinOp)(x y:Nat):aX:=⟨.l a,.bin o (.p x) (.p y),none⟩
abbrev zp (a c x:Nat):aX:=⟨.l a,.pick (.l c) (.l x) (.c (.bool false)),none⟩
abbrev zP (a c x:Nat):aX:=⟨.l a,.pick (.l c) (.c (.bool true)) (.l x),none⟩
abbrev zx (a e n x:Nat):aX:=⟨.p a,.box e n (.p x),none⟩
abbrev zu (a x:Nat):aX:=⟨.l a,.un .not (.l x),none⟩
theorem nca:(∀l:List AV,[]++l=l) /\ ∀(a:AV) (l m:List AV),(a::l)++m=a::(l++m):=⟨fG,fun _ _ _=>d8⟩
abbrev kI (n:Int):ay:=.c (.int .i64 n)
abbrev kU (n:Int):ay:=.c (.int .u64 n)
abbrev kW (n:Int):ay:=.c (.int .u32 n)
abbrev AV.iV (n:Int):AV:=.int .i64 n
abbrev AV.uV (n:Int):AV:=.int .u64 n
abbrev zR (l:List aX)(c:ak):ak:=.seq (.region l) c
abbrev kF (f:Nat):ay:=.c (.fn (.func f) [] [])
abbrev zg (o:aX)(k:Nat)(b:Bool):aX:=⟨o.dst,o.op,some (.l k,b)⟩
abbrev zD0:List UInt8:=[0,1,2,2,3,3,3,3,4,4,4,4,4,4,4,4,5,5,5,5,5,5,5,5,5,5,5,5,5,5,5,5,6,6,6,6,6,6,6,6,6,6,6,6,6,6,6,6,6,6,6,6,6,6,6,6,6,6,6,6,6,6,6,6,7,7,7,7,7,7,7,7,7,7,7,7,7,7,7,7,7,7,7,7,7,7,7,7,7,7,7,7,7,7,7,7,7,7,7,7,7,7,7,7,7,7,7,7,7,7,7,7,7,7,7,7,7,7,7,7,7,7,7,7,7,7,7,7,8,8,8,8,8,8,8,8,8,8,8,8,8,8,8,8,8,8,8,8,8,8,8,8,8,8,8,8,8,8,8,8,8,8,8,8,8,8,8,8,8,8,8,8,8,8,8,8,8,8,8,8,8,8,8,8,8,8,8,8,8,8,8,8,8,8,8,8,8,8,8,8,8,8,8,8,8,8,8,8,8,8,8,8,8,8,8,8,8,8,8,8,8,8,8,8,8,8,8,8,8,8,8,8,8,8,8,8,8,8,8,8,8,8,8,8,8,8,8,8,8,8,8,8,8,8,8,8]
abbrev zD1:List UInt8:=[48,48,48,49,48,50,48,51,48,52,48,53,48,54,48,55,48,56,48,57,49,48,49,49,49,50,49,51,49,52,49,53,49,54,49,55,49,56,49,57,50,48,50,49,50,50,50,51,50,52,50,53,50,54,50,55,50,56,50,57,51,48,51,49,51,50,51,51,51,52,51,53,51,54,51,55,51,56,51,57,52,48,52,49,52,50,52,51,52,52,52,53,52,54,52,55,52,56,52,57,53,48,53,49,53,50,53,51,53,52,53,53,53,54,53,55,53,56,53,57,54,48,54,49,54,50,54,51,54,52,54,53,54,54,54,55,54,56,54,57,55,48,55,49,55,50,55,51,55,52,55,53,55,54,55,55,55,56,55,57,56,48,56,49,56,50,56,51,56,52,56,53,56,54,56,55,56,56,56,57,57,48,57,49,57,50,57,51,57,52,57,53,57,54,57,55,57,56,57,57]
abbrev zD2:List UInt8:=[48,49,50,51,52,53,54,55,56,57,97,98,99,100,101,102,103,104,105,106,107,108,109,110,111,112,113,114,115,116,117,118,119,120,121,122]
abbrev zD3:List UInt8:=[9,9,9,9,9,9,9,9,9,9,9,9,9,9,9,9,9,9,9,9,9,9,9,9,9,9,9,9,9,9,9,9,9,9,9,9,9,9,9,9,9,9,9,9,9,9,9,9,9,9,9,9,9,9,9,9,9,9,9,9,9,9,9,9]
abbrev zD4:List UInt8:=[61,61,61,61,61,61,61,61,61,61,61,61,61,61,61,61,61,61,61,61,61,61,61,61,61,61,61,61,61,61,61,61,61,61,61,61,61,61,61,61,61,61,61,61,61,61,61,61,61,61,61,61,61,61,61,61,61,61,61,61,61,61,61,61,61,61,61,61,61,61,61,61,61,61,61,61,61,61,61,61,61,61,61,61,61,61,61,61,61,61,61,61,61,61,61,61,61,61,61,61,61,61,61,61,61,61,61,61,61,61,61,61,61,61,61,61,61,61,61,61,61,61,61,61,61,61,61,61]
abbrev zD5:List UInt8:=[32,32,32,32,32,32,32,32,32,32,32,32,32,32,32,32,32,32,32,32,32,32,32,32,32,32,32,32,32,32,32,32,32,32,32,32,32,32,32,32,32,32,32,32,32,32,32,32,32,32,32,32,32,32,32,32,32,32,32,32,32,32,32,32,32,32,32,32,32,32,32,32,32,32,32,32,32,32,32,32,32,32,32,32,32,32,32,32,32,32,32,32,32,32,32,32,32,32,32,32,32,32,32,32,32,32,32,32,32,32,32,32,32,32,32,32,32,32,32,32,32,32,32,32,32,32,32,32]
abbrev zD6:List UInt8:=[48,48,48,48,48,48,48,48,48,48,48,48,48,48,48,48,48,48,48,48,48,48,48,48,48,48,48,48,48,48,48,48,48,48,48,48,48,48,48,48,48,48,48,48,48,48,48,48,48,48,48,48,48,48,48,48,48,48,48,48,48,48,48,48]
abbrev zD7:List UInt8:=[45,45,45,45,45,45,45,45,45,45,45,45,45,45,45,45,45,45,45,45,45,45,45,45,45,45,45,45,45,45,45,45,45,45,45,45,45,45,45,45,45,45,45,45,45,45,45,45,45,45,45,45,45,45,45,45,45,45,45,45,45,45,45,45,45,45,45,45,45,45,45,45,45,45,45,45,45,45,45,45,45,45,45,45,45,45,45,45,45,45,45,45,45,45,45,45,45,45,45,45,45,45,45,45,45,45,45,45,45,45,45,45,45,45,45,45,45,45,45,45,45,45,45,45,45,45,45,45]
abbrev zD8:List UInt8:=[65,116,111,105]
abbrev zD9:List UInt8:=[48,49,50,51,52,53,54,55,56,57]
end Go.Ab
namespace Go.Ab
def qG (rec:Value->Option AV):List Value->Option (List AV)
 | []=>some []
 | v::r=>match rec v,qG rec r with
   | some a,some l=>some (a::l)
   | _,_=>none
def oW:Nat->Value->Option AV
 | 0,_=>none
 | n+1,v=>
  match v with
  | .bool b=>some (.bool b)
  | .int k m=>some (.int k m)
  | .string s=>some (.str s.data.toList)
  | .pointer none=>some .dG
  | .slice none 0 0=>some .ab
  | .map none=>some .eO
  | .nilFunc=>some .fO
  | .nilIface=>some .dh
  | .func (.func f) ⟨[]⟩ ⟨[]⟩=>some (.fn (.func f) [] [])
  | .agg ⟨cs⟩=>(qG (fun v=>oW n v) cs).map .agg
  | .tuple ⟨cs⟩=>(qG (fun v=>oW n v) cs).map .au
  | _=>none
def idx (t:Nat):List Nat->Nat->Option Nat
 | [],_=>none
 | u::r,i=>if u=t then some i else idx t r (i+1)
structure Cx where
 P:Program
 gl:Nat->Option AV
 aR:List Nat
 N:Nat
def ij (C:Cx):Operand->Option ay
 | .tmp t=>match idx t C.aR 0 with
   | some i=>some (.p i)
   | none=>some (.l t)
 | .const v=>(oW 5 v).map .c
 | .func f=>some (.c (.fn (.func f) [] []))
 | .global g=>(C.gl g).map .c
def iP (C:Cx):List Operand->Option (List ay)
 | []=>some []
 | x::xs=>match ij C x,iP C xs with
   | some a,some l=>some (a::l)
   | _,_=>none
def mZ (C:Cx):Option Operand->Option (Option ay)
 | none=>some none
 | some x=>(ij C x).map some
def BX:TypeDesc->Bool
 | .struct _ | .array _ _=>true
 | _=>false
def shapeOf (P:Program)(t:TypeId):Option (Nat×Bool):=
 match P.info? t,P.underlying t with
 | some i,some d=>some (i.size,BX d)
 | _,_=>none
def zeroOf (P:Program)(t:TypeId):Option AV:=
 match P.info? t with
 | some i=>match i.zero with
   | some v=>oW 5 v
   | none=>none
 | none=>none
def sJ (P:Program)(rec:TypeId->Option iE):List Field->Option (List (Nat×Nat×Bool×iE))
 | []=>some []
 | f::r=>match sJ P rec r with
   | some l => if f.name == "_" then some l else
     match shapeOf P f.type,rec f.type with
     | some (n,ag),some e=>some ((f.offset,n,ag,e)::l)
     | _,_=>none
   | none=>none
def sM (sz:Nat)(ag:Bool)(q:iE):Nat->Nat->List (Nat×Nat×Bool×iE)
 | 0,_=>[]
 | n+1,i=>(i*sz,sz,ag,q)::sM sz ag q n (i+1)
def iQ (P:Program):Nat->Bool->TypeId->Option iE
 | 0,_,_=>none
 | d+1,g,t=>
  match P.underlying t with
  | some .bool=>some .bool
  | some (.int _)=>some .int
  | some .string=>some .str
  | some (.pointer _)=>some (.ref .ptr)
  | some (.slice _)=>some (.ref .slice)
  | some (.map _ _)=>some (.ref .map)
  | some (.func _ _ _)=>some (.ref .func)
  | some (.interface ms)=>some (.iface (g && !ms.isEmpty))
  | some (.struct fs)=>if P.stoodInHeld t then none else (sJ P (fun t=>iQ P d true t) fs.toList).map .By
  | some (.array n e)=>match shapeOf P e,iQ P d true e with
    | some (sz,ag),some q=>some (.By (sM sz ag q n 0))
    | _,_=>none
  | _=>none
def mn:Operand->Bool
 | .const _=>true
 | _=>false
def lE (C:Cx)(place:Nat->Option (Nat×Nat)):List (Nat×Operand)->Option (List (Nat×Nat×ay))
 | []=>some []
 | (i,x)::r=>match place i,ij C x,lE C place r with
   | some (o,n),some a,some l=>some ((o,n,a)::l)
   | _,_,_=>none
def qH (P:Program):List Field->Option (List (Nat×Nat))
 | []=>some []
 | f::r=>match P.info? f.type,qH P r with
   | some i,some l=>some ((f.offset,i.size)::l)
   | _,_=>none
def jF (P:Program)(t:TypeId):Option (TypeId×Nat×Nat):=
 match P.underlying t with
 | some (.slice e)=>match P.info? e with
   | some i=>some (e,i.size,i.bytes)
   | none=>none
 | _=>none
def keyOf (P:Program)(t:TypeId):Option jd:=
 match P.underlying t with
 | some (.int _)=>some .int
 | some .string=>some .str
 | _=>none
def sN:BinOp->Bool
 | .eql | .neq=>true
 | _=>false
def wj (P:Program)(t:TypeId):Bool:=
 match P.underlying t with
 | some (.int _)|some .string=>true
 | _=>false
def wk (P:Program)(e:TypeId)(n:Nat):Bool:=
 match (zeroOf P e).bind AV.cells with
 | some z=>z.length == n
 | none=>false
def BY (P:Program)(t:TypeId):Bool:=
 match P.underlying t with
 | some (.struct _)|some (.array _ _)=>P.eqGuardType P.depth t
 | _=>false
def Tl:Fn->Bool
 | .yield _=>true
 | _=>false
def jY (P:Program)(e:TypeId):Bool:=
 match P.info? e with
 | some i=>match i.desc with
   | .named n _ => n == "strings.Builder"
   | _=>false
 | none=>false
def BZ (P:Program)(t:TypeId):Bool:=
 match P.underlying t with
 | some (.pointer e)=>jY P e
 | _=>false
def jG (C:Cx)(o:Oper):Option bg:=
 let P:=C.P
 let d:=ij C
 match o.op with
 | .move x | .assign x=>(d x).map .mv
 | .pick c a b=>match d c,d a,d b with
   | some c,some a,some b=>some (.pick c a b)
   | _,_,_=>none
 | .alloc e=>match zeroOf P e with
   | some z=>z.cells.map (.alloc e)
   | none=>none
 | .box e x=>match shapeOf P e,d x with
   | some (n,_),some x=>some (.box e n x)
   | _,_=>none
 | .build t ps=>match zeroOf P t with
   | some z=>match z.cells,P.underlying t with
     | some zc,some (.struct fs)=>match qH P fs.toList with
       | some pl=>(lE C (pl[·]?) ps.toList).map (.build zc)
       | none=>none
     | some zc,some (.array _ e)=>match P.info? e with
       | some i=>(lE C (fun j=>some (j*i.size,i.size)) ps.toList).map (.build zc)
       | none=>none
     | _,_=>none
   | none=>none
 | .buildSlice t len ps=>match jF P t with
   | some (e,n,_)=>match (zeroOf P e).bind AV.cells,lE C (fun j=>some (j*n,n)) ps.toList with
     | some z,some l=>if len*n<=2^24/\z.length=n/\0<n then some (.du e len n z l) else none
     | _,_=>none
   | none=>none
 | .load t a=>match shapeOf P t,d a with
   | some (n,ag),some a=>some (.load n ag a)
   | _,_=>none
 | .store t a x=>match shapeOf P t,d a,d x with
   | some (n,_),some a,some x=>some (.store n a x)
   | _,_,_=>none
 | .nilCheck x=>(d x).map .kr
 | .binOp op t x y _=>match d x,d y with
   | some a,some b=>
    if sN op && !wj P t then
     if BZ P t && !(mn x || mn y) then some (.oC (op == .neq) a b) else
     if BY P t then none else
     (iQ P 20 (!(mn x || mn y)) t).map fun e=>.eq (op == .neq) e a b
    else some (.bin op a b)
   | _,_=>none
 | .unOp op _ x=>(d x).map (.un op)
 | .convert src dst x=>match P.underlying src,P.underlying dst,d x with
   | some (.int _),some (.int k),some a=>some (.dM k a)
   | some (.int _),some .string,some a=>some (.Bz a)
   | some .string,some .string,some a=>some (.BA a)
   | some .string,some (.slice e),some a=>match P.underlying e with
     | some (.int .u8)=>if jY P e then none else some (.qA e a)
     | _=>none
   | some (.slice e),some .string,some a=>match P.underlying e with
     | some (.int .u8)=>some (.mg a)
     | _=>none
   | some (.pointer t),some .unsafePointer,some a=>match P.info? t with
     | some i=>if i.size=0 then none else some (.lf none a)
     | none=>none
   | some .unsafePointer,some (.pointer u),some a=>match P.info? u with
     | some _=>if jY P u && liesAt P P.depth u (P.cellsOf u/P.cellsOf u) 0 u 1 then some (.lf (some (u,P.cellsOf u)) a) else none
     | none=>none
   | _,_,_=>none
 | .makeInterface t x=>match P.underlying t with
   | some (.interface _)=>none
   | some _=>(d x).map (.lh t)
   | none=>none
 | .typeAssert x _ t ok=>match P.underlying t with
   | some (.interface _)=>none
   | some _=>match d x,zeroOf P t with
     | some x,some z=>some (.BC t z ok x)
     | _,_=>none
   | none=>none
 | .makeFunc f fi ca=>if Tl f then none else match iP C fi.toList,iP C ca.toList with
   | some a,some b=>some (.vF f a b)
   | _,_=>none
 | .makeMap _ none=>some .oE
 | .makeSlice t l c=>match jF P t,d l,d c with
   | some (e,n,by'),some l,some c=>match (zeroOf P e).bind AV.cells with
     | some z=>if z.length=n/\0<n then some (.gZ e n by' z l c) else none
     | none=>none
   | _,_,_=>none
 | .slice t x lo hi mx=>match P.underlying t,d x,mZ C lo,mZ C hi,mZ C mx with
   | some .string,some x,some l,some h,some none=>some (.slice .str 1 x l h none)
   | some (.slice e),some x,some l,some h,some m=>match P.info? e with
     | some i=>some (.slice .sl i.size x l h m)
     | none=>none
   | some (.array n e),some x,some l,some h,some none=>match P.info? e with
     | some i=>some (.jn n i.size x l h)
     | none=>none
   | _,_,_,_,_=>none
 | .fieldAddr t x f=>match P.underlying t,d x with
   | some (.struct fs),some x=>match fs[f]? with
     | some f=>match P.info? f.type with
       | some i=>if i.size=0 then none else some (.jA f.offset x)
       | none=>none
     | none=>none
   | _,_=>none
 | .field t x f=>match P.underlying t,d x with
   | some (.struct fs),some x=>match fs[f]? with
     | some f=>match shapeOf P f.type with
       | some (n,ag)=>some (.field f.offset n ag x)
       | none=>none
     | none=>none
   | _,_=>none
 | .indexAddr t x i=>match P.underlying t,d x,d i with
   | some (.array n e),some x,some i=>match P.info? e with
     | some inf=>some (.dw (some n) inf.size x i)
     | none=>none
   | some (.slice e),some x,some i=>match P.info? e with
     | some inf=>some (.dw none inf.size x i)
     | none=>none
   | _,_,_=>none
 | .index t x i=>match P.underlying t,d x,d i with
   | some .string,some x,some i=>some (.index x i)
   | some (.array n e),some x,some i=>match shapeOf P e with
     | some (sz,ag)=>some (.BB n sz ag x i)
     | none=>none
   | _,_,_=>none
 | .lookup t x i ok=>match P.underlying t,d x,d i with
   | some (.map k e),some x,some i=>match keyOf P k,zeroOf P e with
     | some k,some z=>some (.lookup k z x i ok)
     | _,_=>none
   | _,_,_=>none
 | .mapUpdate t m i x | .insert t m i x=>match P.underlying t,d m,d i,d x with
   | some (.map k _),some m,some i,some x=>(keyOf P k).map fun k=>.su k m i x
   | _,_,_,_=>none
 | .range t x=>match P.underlying t,d x with
   | some .string,some x=>some (.range x)
   | _,_=>none
 | .next x true=>(d x).map .next
 | .extract x i=>(d x).map (.extract i)
 | .call c=>match c.callee with
   | .value f=>match d f,iP C c.args.toList with
     | some f,some as=>some (.call f as)
     | _,_=>none
   | .invoke r name=>match d r,iP C c.args.toList with
     | some r,some as=>some (.invoke r name as)
     | _,_=>none
   | .builtin b=>match b,c.argTypes.toList,iP C c.args.toList with
     | .len,[t],some [x]=>match P.underlying t with
       | some (.array n _)=>some (.len (.arr n) x)
       | some (.map _ _)=>some (.sv x)
       | some .string=>some (.len .str x)
       | some (.slice _)=>some (.len .sl x)
       | _=>none
     | .cap,[t],some [x]=>match P.underlying t with
       | some (.slice _)=>some (.cap x)
       | _=>none
     | .append,[t,u],some [x,y]=>match jF P t,P.underlying u with
       | some (e,n,by'),some .string=>if n=1/\wk P e n=true/\jY P e=false then some (.append e n by' x y) else none
       | some (e,n,by'),some (.slice _)=>if 0<n/\wk P e n=true/\jY P e=false then some (.append e n by' x y) else none
       | _,_=>none
     | .copy,[t,_],some [x,y]=>match jF P t with
       | some (_,n,_)=>if 0<n then some (.copy n x y) else none
       | none=>none
     | .clear,[t],some [x]=>match jF P t with
       | some (e,n,_)=>match (zeroOf P e).bind AV.cells with
         | some z=>if z.length=n/\0<n then some (.ss n z x) else none
         | none=>none
       | none=>none
     | .unsafeSliceData,[t],some [x]=>match P.underlying t with
       | some (.slice _)=>some (.sr x)
       | _=>none
     | .unsafeString,[t,_],some [x,n]=>match P.underlying t with
       | some (.pointer e)=>if P.cellsOf e=1 then some (.kq e x n) else none
       | _=>none
     | .max,_,some xs=>some (.mm true xs)
     | .min,_,some xs=>some (.mm false xs)
     | _,_,_=>none
 | _=>none
def lF (C:Cx):Option Tmp->Option eZ
 | none=>some .no
 | some t=>if t<C.N then
     match idx t C.aR 0 with
     | some i=>some (.p i)
     | none=>some (.l t)
   else none
def wm (C:Cx)(ops:List Oper):Option (Nat×Bool)->Option (Option (ay×Bool))
 | none=>some none
 | some (j,w)=>match ops[j]? with
   | some o=>match o.dst with
     | some t=>(ij C (.tmp t)).map fun x=>some (x,w)
     | none=>none
   | none=>none
def wq (C:Cx)(ops:List Oper)(o:Oper):Option aX:=
 match lF C o.dst,jG C o,wm C ops o.guard with
 | some d,some op,some g=>some ⟨d,op,g⟩
 | _,_,_=>none
def kB (C:Cx)(ops:List Oper):List Oper->Option (List aX)
 | []=>some []
 | o::r=>match wq C ops o,kB C ops r with
   | some a,some l=>some (a::l)
   | _,_=>none
def Tm (ops:List Oper):List Nat:=
 ops.foldl (fun acc o=>acc++[o.after.toList.foldl (fun s e=>if Region.binds .any e then s ||| 2^e.on ||| acc.getD e.on 0 else s) 0]) []
def jZ (bits i:Nat):List Nat:=(List.range i).filter fun j=>!bits.testBit j
def qI (ops:List Oper)(bits:List Nat):Bool:=
 ops.zipIdx.all fun (o,i)=>
  o.after.toList.all (fun e=>!Region.binds .any e || decide (e.on<i)) &&
  (List.range i).all fun j=>!(bits.getD i 0).testBit j || o.after.toList.any fun e=>Region.binds .any e && (e.on == j || (decide (j<e.on) && (bits.getD e.on 0).testBit j))
def qJ (l:List aX)(bits:List Nat):Bool:=
 l.zipIdx.all fun (o,i)=>(jZ (bits.getD i 0) i).all fun j=>match l[j]? with|some oj=>qB oj o|none=>false
def wu (C:Cx)(ops:List Oper)(draw:Bool):Option ak:=
 match kB C ops ops with
 | none=>none
 | some l=>
  if draw then
   let bits:=Tm ops
   if qI ops bits && qJ l bits then some (.draw (l.zipIdx.map fun (o,i)=>(o,jZ (bits.getD i 0) i))) else none
  else some (.region l)
def nc (C:Cx):List Tmp->Option (List eZ)
 | []=>some []
 | t::r=>match lF C (some t),nc C r with
   | some d,some l=>some (d::l)
   | _,_=>none
def fW (C:Cx)(rd:Bool):Code->Option ak
 | .skip=>some .skip
 | .region _ ops draw=>some ((wu C ops.toList draw).getD .bad)
 | .seq a b=>match fW C rd a,fW C rd b with
   | some a,some b=>some (.seq a b)
   | _,_=>none
 | .cond c a b=>match ij C c,fW C rd a,fW C rd b with
   | some c,some a,some b=>some (.cond c a b)
   | _,_,_=>none
 | .block id c=>(fW C rd c).map (.block id)
 | .loop c=>(fW C rd c).map .loop
 | .exit id=>some (.exit id)
 | .ret=>some .ret
 | .scope c=>(fW C rd c).map fun c=>.seq c .skip
 | .label _=>some .skip
 | .rangeFunc f ps a b=>match ij C f,nc C ps.toList,fW C true a,fW C true b with
   | some f,some ps,some a,some b=>some (.rangeFunc rd f ps a b)
   | _,_,_,_=>none
 | _=>some .bad
def mq (C:Cx):List ResultVar->Option (List fA)
 | []=>some []
 | .tmp t::r=>match ij C (.tmp t),mq C r with
   | some x,some l=>some (.var x::l)
   | _,_=>none
 | .cell t ty::r=>match ij C (.tmp t),shapeOf C.P ty,mq C r with
   | some x,some (n,ag),some l=>some (.cell n ag x::l)
   | _,_,_=>none
def wx (P:Program)(gl:Nat->Option AV)(aR:List Nat)(f:Func):Option dv:=
 let C:Cx:=⟨P,gl,aR,f.ntmps⟩
 match f.body with
 | none=>none
 | some c=>
  match fW C false c,mq C f.results.toList with
  | some b,some r=>if aR.all (· < f.ntmps) && decide aR.Nodup then some ⟨f.ntmps,aR,r,b⟩ else none
  | _,_=>none
def ew (P:Program)(t:TypeId)(name:String):Option FuncId:=
 match P.info? t,P.underlying t with
 | some i,some u=>match i.methods.toList.find? (·.name == name) with
   | some m=>match m.func,m.path.toList with
     | some (f,ptr),[]=>match u,ptr with
       | .pointer _,true=>some f
       | .pointer _,false=>none
       | _,false=>some f
       | _,true=>none
     | _,_=>none
   | none=>none
 | _,_=>none
end Go.Ab
namespace Go.Ab
def IP (P:Program)(gl:Nat->Option AV)(aR:List (List Nat))(f:FuncId):Option dv:=
 match P.funcs[f]?,aR[f]? with
 | some fn,some p=>wx P gl p fn
 | _,_=>none
end Go.Ab
namespace Go.Ab
variable {w w':World} {x:AV} {l:List AV} {y v:Value} {m:List Value} {h h':aa} {a:Addr} {n:Nat}
inductive BS where
 | fresh|dead|nil|live (c d:Nat)
structure az where
 at':Nat->BS
 X:Nat->Prop
instance:CoeFun az (fun _=>Nat->BS):=⟨az.at'⟩
def cW (ρ:az)(c:Nat):Prop:=(∀b d,ρ b≠.live c d)/\¬ρ.X c
inductive V (ρ:az) (w:World):AV->Value->Prop
 | db (v:Value):V ρ w .db v
 | bool (b:Bool):V ρ w (.bool b) (.bool b)
 | int (k:IntKind) (n:Int):V ρ w (.int k n) (.int k n)
 | str (s:List UInt8):V ρ w (.str s) (.string ⟨s.toArray⟩)
 | dG:V ρ w .dG (.pointer none)
 | ptr {b c d:Nat} (o:Nat) (h:ρ b = .live c d):V ρ w (.ptr b o) (.pointer (some ⟨c,o+d,none⟩))
 | eE {b:Nat} (o c o':Nat) (h:ρ b = .dead):V ρ w (.ptr b o) (.pointer (some ⟨c,o',none⟩))
 | vp {l:List AV} (c o:Nat) (g:Nat->Value) (hf:l≠[]->cW ρ c) (hc:∀i:Nat,i<l.length->w.cell? ⟨c,o+i,none⟩=some (g i))
     (hg:∀(i:Nat) x,l[i]? = some x->V ρ w x (g i)):V ρ w (.vp l) (.pointer (some ⟨c,o,none⟩))
 | ab:V ρ w .ab (.slice none 0 0)
 | sl {b c d o len esz capC:Nat} {cap:Option Nat} (h:ρ b = .live c d) (hl:len<=capC) (hcap:∀n,cap=some n->capC=n)
     (hb:∃cs e fr,w.heap[c]? = some (.cells cs e fr)/\o+d+capC*esz<=cs.size):V ρ w (.sl b o len esz cap) (.slice (some ⟨c,o+d,none⟩) len capC)
 | gA {b esz:Nat} (h:ρ b = .nil):V ρ w (.sl b 0 0 esz none) (.slice none 0 0)
 | fB {b o len esz capC:Nat} {cap:Option Nat} (c o':Nat) (h:ρ b = .dead) (hl:len<=capC) (hcap:∀n,cap=some n->capC=n):V ρ w (.sl b o len esz cap) (.slice (some ⟨c,o',none⟩) len capC)
 | fX {b esz:Nat} (h:ρ b = .dead):V ρ w (.sl b 0 0 esz none) (.slice none 0 0)
 | gB {b esz:Nat} (a:Addr) (h:ρ b = .dead):V ρ w (.sl b 0 0 esz (some 0)) (.slice (some a) 0 0)
 | vs {l:List AV} {len capC:Nat} {cap:Option Nat} (c o:Nat) (g:Nat->Value) (hf:l≠[]->cW ρ c) (hl:len<=capC) (hcap:∀n,cap=some n->capC=n)
     (hc:∀i:Nat,i<l.length->w.cell? ⟨c,o+i,none⟩=some (g i)) (hg:∀(i:Nat) x,l[i]? = some x->V ρ w x (g i)):V ρ w (.vs l len cap) (.slice (some ⟨c,o,none⟩) len capC)
 | ff {cap:Option Nat} (hcap:∀n,cap=some n->n=0):V ρ w (.vs [] 0 cap) (.slice none 0 0)
 | fY {cap:Option Nat} (a:Addr) (hcap:∀n,cap=some n->n=0):V ρ w (.vs [] 0 cap) (.slice (some a) 0 0)
 | eO:V ρ w .eO (.map none)
 | map {b c:Nat} (h:ρ b = .live c 0):V ρ w (.map b) (.map (some c))
 | iR {b:Nat} (c:Nat) (h:ρ b = .dead):V ρ w (.map b) (.map (some c))
 | yield {b c d:Nat} (h:ρ b = .live c d):V ρ w (.fn (.yield b) [] []) (.func (.yield c) #[] #[])
 | fn {f:Fn} {fi ca:List AV} {fi' ca':List Value} (hf:∀l,f≠.yield l) (h1:fi.length=fi'.length) (h2:ca.length=ca'.length)
     (g1:∀(i:Nat) x y,fi[i]? = some x->fi'[i]? = some y->V ρ w x y) (g2:∀(i:Nat) x y,ca[i]? = some x->ca'[i]? = some y->V ρ w x y):V ρ w (.fn f fi ca) (.func f fi'.toArray ca'.toArray)
 | iG {b:Nat} (c:Nat) (h:ρ b = .dead):V ρ w (.fn (.yield b) [] []) (.func (.yield c) #[] #[])
 | fO:V ρ w .fO .nilFunc
 | iface {t:TypeId} {x:AV} {y:Value} (h:V ρ w x y):V ρ w (.iface t x) (.iface t y)
 | dh:V ρ w .dh .nilIface
 | agg {l:List AV} {m:List Value} (h:l.length=m.length) (g:∀(i:Nat) x y,l[i]? = some x->m[i]? = some y->V ρ w x y):V ρ w (.agg l) (.agg m.toArray)
 | au {l:List AV} {m:List Value} (h:l.length=m.length) (g:∀(i:Nat) x y,l[i]? = some x->m[i]? = some y->V ρ w x y):V ρ w (.au l) (.tuple m.toArray)
def VL (ρ:az)(w:World)(l:List AV)(m:List Value):Prop:=
 l.length=m.length/\∀(i:Nat) x y,l[i]? = some x->m[i]? = some y->V ρ w x y
theorem V.Ca {ρ:az}(s:ByteArray):V ρ w (.str s.data.toList) (.string s):=by
 have:=V.str (ρ:=ρ) (w:=w) s.data.toList;omega
theorem VL.nil {ρ:az}:VL ρ w [] []:=⟨rfl,be⟩
theorem VL.cons {ρ:az}(h:V ρ w x y)(h':VL ρ w l m):VL ρ w (x::l) (y::m):=by
 refine⟨by simp[h'.1],fun i a b ha hb=>?_⟩;cases i with
 | zero=>grind
 | succ i=>simp at ha hb;exact h'.2 i a b ha hb
theorem VL.head {ρ:az}(h:VL ρ w (x::l) (y::m)):V ρ w x y:=h.2 0 x y rfl rfl
theorem VL.tail {ρ:az}(h:VL ρ w (x::l) (y::m)):VL ρ w l m:=
 ⟨by simpa using h.1,fun i a b ha hb=>h.2 (i+1) a b bS bS⟩
theorem VL.cons_inv {ρ:az}(h:VL ρ w (x::l) m):∃y m',m=y::m'/\V ρ w x y/\VL ρ w l m':=by
 cases m with
 | nil=>exact absurd h.1 be
 | cons y m'=>exact⟨y,m',rfl,h.head,h.tail⟩
theorem VL.kC {ρ:az}(h:VL ρ w [] m):m=[]:=by
 have:=h.1<;>grind
theorem VL.append {ρ:az}:∀{l l':List AV} {m m':List Value},VL ρ w l m->VL ρ w l' m'->VL ρ w (l++l') (m++m')
 | [],_,_,_,h,h'=>by rw[h.kC];exact h'
 | _::_,_,_,_,h,h'=>by
  obtain⟨y,m1,rfl,hv,hl⟩:=h.cons_inv;exact .cons hv (hl.append h')
theorem VL.drop {ρ:az}(h:VL ρ w l m)(n:Nat):VL ρ w (l.drop n) (m.drop n):=
 ⟨by simp[h.1],fun i a b ha hb=>h.2 (n+i) a b bS bS⟩
theorem VL.take {ρ:az}(h:VL ρ w l m)(n:Nat):VL ρ w (l.take n) (m.take n):=
 ⟨by simp[h.1],fun i a b ha hb=>by
  rw[gF]at ha hb;split at ha
  . rename_i hlt;rw[if_pos hlt]at hb;exact h.2 i a b ha hb
  grind⟩
structure ER (C:Cx)(ρ:az)(w:World)(pe:List AV)(lo:List (Nat×AV))(tmps:Array Value):Prop where
 size:tmps.size=C.N
 nodup:C.aR.Nodup
 lt:∀t∈C.aR,t<C.N
 jH:pe.length=C.aR.length
 pe:∀(i:Nat) v t,pe[i]? = some v->C.aR[i]? = some t->V ρ w v (tmps.getD t undef)
 lo:∀t v,lo.lookup t=some v->t<C.N/\t∉C.aR/\V ρ w v (tmps.getD t undef)
def oZ:Option Ex->Option Code->Prop
 | none,none=>True
 | some .ret,some .ret=>True
 | some (.exit i),some (.exit j)=>i=j
 | _,_=>False
def Fits (P:Program)(e:TypeId)(d n s:Nat):Prop:=d+n<=s/\(jY P e=true->d=0/\n=s)
def BR (P:Program)(gl:Nat->Option AV)(ρ:az)(w:World)(b:Nat):ba->Prop
 | .cells l e=>(∃c d cs fr,ρ b = .live c d/\w.heap[c]? = some (.cells cs e fr)/\Fits P e d l.length cs.size/\(∀i,i<cs.size->w.frozen? ⟨c,i,none⟩=false) /\
     ∀(i:Nat) x y,l[i]? = some x->cs[i+d]? = some y->V ρ w x y)\/(ρ b = .nil/\l=[])
 | .map es=>∃c ms clk,ρ b = .live c 0/\w.heap[c]? = some (.map ms clk)/\es.length=ms.size /\
     ∀(i:Nat) kx vx m,es[i]? = some (kx,vx)->ms[i]? = some m->V ρ w kx m.key/\V ρ w vx m.val
 | .iter s pos=>∃c,ρ b = .live c 0/\w.heap[c]? = some (.stringIter ⟨s.toArray⟩ pos)
 | .hJ=>∃c,ρ b = .live c 0/\w.heap[c]? = some (.deferred (some []))
 | .hole=>ρ b = .fresh
 | .loop st pend pe ps a bd=>∃c r aR N,ρ b = .live c 0/\w.heap[c]? = some (.loop r)/\r.state=st/\oZ pend r.pending /\
     ER ⟨P,gl,aR,N⟩ ρ w pe [] r.tmps/\nc ⟨P,gl,aR,N⟩ r.params.toList=some ps/\fW ⟨P,gl,aR,N⟩ true r.assign=some a/\fW ⟨P,gl,aR,N⟩ true r.body=some bd
structure Mem (P:Program)(gl:Nat->Option AV)(ρ:az)(h:aa)(w:World):Prop where
 dc:∀b o,h[b]? = some (some o)->BR P gl ρ w b o
 fresh:∀b,h.length<=b->ρ b = .fresh
 inj:∀b b' c d d',ρ b = .live c d->ρ b' = .live c d'->b=b'
 bound:∀b c d,ρ b = .live c d->c<w.heap.size
 xb:∀c,ρ.X c->c<w.heap.size
 xo:∀b c d,ρ b = .live c d->¬ρ.X c
 gl:∀g v,gl g=some v->V ρ w v (.pointer (some ⟨g,0,none⟩))
structure Ext (h h':aa)(ρ ρ':az)(w w':World):Prop where
 os:w'.os=w.os
 tape:w'.tape=w.tape
 output:w'.output=w.output
 size:w.heap.size<=w'.heap.size
 len:h.length<=h'.length
 X:ρ'.X=ρ.X
 db:∀b:Nat,h[b]? = some none->h'[b]? = some none
 same:∀b:Nat,h[b]? = some none->ρ' b=ρ b
 live:∀b c d,ρ b = .live c d->ρ' b = .live c d\/ρ' b = .dead
 dead:∀b,ρ b = .dead->ρ' b = .dead
 nil:∀b,ρ b = .nil->ρ' b = .nil\/ρ' b = .dead
 ck:∀c,c<w.heap.size->(∀b d,ρ b = .live c d->h[b]? = some none)->w'.heap[c]? = w.heap[c]?
 back:∀b c d,ρ' b = .live c d->c<w.heap.size->ρ b = .live c d\/∃b0 d0,ρ b0 = .live c d0/\h[b0]? ≠ some none
 shape:∀(c:Nat) cs e fr,w.heap[c]? = some (.cells cs e fr)->∃cs' fr',w'.heap[c]? = some (.cells cs' e fr')/\cs'.size=cs.size
theorem Ext.refl (h:aa)(ρ:az)(w:World):Ext h h ρ ρ w w:=
 ⟨rfl,rfl,rfl,b8 _,b8 _,rfl,fun _ h=>h,fun _ _=>rfl,bS,fun _ h=>h,bS,be,bS,
  bS⟩
theorem Ext.trans {h1 h2:aa}{ρ ρ1 ρ2:az}{w1 w2:World}(x:Ext h h1 ρ ρ1 w w1)(y:Ext h1 h2 ρ1 ρ2 w1 w2):Ext h h2 ρ ρ2 w w2 where
 os:=y.os.trans x.os
 tape:=y.tape.trans x.tape
 output:=y.output.trans x.output
 size:=i7 x.size y.size
 len:=i7 x.len y.len
 X:=y.X.trans x.X
 db b hb:=y.db b (x.db b hb)
 same b hb:=(y.same b (x.db b hb)).trans (x.same b hb)
 live b c d hb:=by
  rcases x.live b c d hb with h|h
  . exact y.live b c d h
  . exact .inr (y.dead b h)
 dead b hb:=y.dead b (x.dead b hb)
 nil b hb:=by
  rcases x.nil b hb with h|h
  . exact y.nil b h
  . exact .inr (y.dead b h)
 ck c hc hb:=by
  rw[y.ck c (gT hc x.size) ?_,x.ck c hc hb];intro b d h1;rcases x.back b c d h1 hc with h|⟨b0,d0,h,hn⟩
  . exact x.db b (hb b d h)
  grind
 back b c d h2 hc:=by
  rcases y.back b c d h2 (gT hc x.size) with h1|⟨b1,d1,h1,hn1⟩
  . exact x.back b c d h1 hc
  . rcases x.back b1 c d1 h1 hc with h0|h0
    . exact .inr ⟨b1,d1,h0,fun hu=>hn1 (x.db b1 hu)⟩
    grind
 shape c cs e fr h0:=by
  obtain⟨cs1,fr1,h1,e1⟩:=x.shape c cs e fr h0;obtain⟨cs2,fr2,h2,e2⟩:=y.shape c cs1 e fr1 h1<;>grind
theorem Tn (h:w.cell? a=some v):∃cs e fr,w.heap[a.block]? = some (.cells cs e fr):=by
 unfold i3 at h;grind
theorem Cb (h:w.cell? a=some v):a.block<w.heap.size:=by
 grind[Tn]
theorem To (h:w'.heap[a.block]? = w.heap[a.block]?):w'.cell? a=w.cell? a:=by
 unfold i3;rw[h]
theorem Ext.free {ρ ρ':az}(x:Ext h h' ρ ρ' w w'){c:Nat}(hc:c<w.heap.size)(hf:cW ρ c):cW ρ' c:=by
 refine⟨fun b d hb=>?_,by rw[x.X];exact hf.2⟩;rcases x.back b c d hb hc with h|⟨b0,d0,h,_⟩
 . exact hf.1 _ _ h
 . exact hf.1 _ _ h
theorem Ext.cell {ρ ρ':az}(x:Ext h h' ρ ρ' w w'){c o:Nat}{v:Value}(hf:cW ρ c)(hc:w.cell? ⟨c,o,none⟩=some v):w'.cell? ⟨c,o,none⟩=some v:=by
 have hlt:=Cb hc;rw[To (w:=w)]
 . exact hc
 . exact x.ck c hlt (fun b d hb=>absurd hb (hf.1 b d))
theorem V.mono {ρ ρ':az}(x:Ext h h' ρ ρ' w w'){a:AV}{v:Value}(hv:V ρ w a v):V ρ' w' a v:=by
 induction hv with
 | db v=>exact .db v
 | bool b=>exact .bool b
 | int k n=>exact .int k n
 | str s=>exact .str s
 | dG=>exact .dG
 | ptr o hb=>
               rcases x.live _ _ _ hb with h|h
               . exact .ptr o h
               . exact .eE o _ _ h
 | eE o c o' hb=>exact .eE o c o' (x.dead _ hb)
 | @vp l c o g hf hc _ ih=>
  by_cases hl:l=[]
  . subst hl;exact .vp c o g be be be
  . have h0:=hc 0 bS;exact .vp c o g (fun _=>x.free (Cb h0) (hf hl)) (fun i hi=>x.cell (hf hl) (hc i hi)) ih
 | ab=>exact .ab
 | sl hb hl hcap hs=>
  obtain⟨cs,e,fr,h1,h2⟩:=hs;obtain⟨cs',fr',h3,h4⟩:=x.shape _ _ _ _ h1;rcases x.live _ _ _ hb with h|h
  . exact .sl h hl hcap ⟨cs',e,fr',h3,ac⟩
  . exact .fB _ _ h hl hcap
 | gA hb=>
             rcases x.nil _ hb with h|h
             . exact .gA h
             . exact .fX h
 | fB c o' hb hl hcap=>exact .fB c o' (x.dead _ hb) hl hcap
 | fX hb=>exact .fX (x.dead _ hb)
 | gB a hb=>exact .gB a (x.dead _ hb)
 | @vs l len capC cap c o g hf hl hcap hc _ ih=>
  by_cases hn:l=[]
  . subst hn;exact .vs c o g be hl hcap be be
  . have h0:=hc 0 bS;exact .vs c o g (fun _=>x.free (Cb h0) (hf hn)) hl hcap (fun i hi=>x.cell (hf hn) (hc i hi)) ih
 | ff hcap=>exact .ff hcap
 | fY a hcap=>exact .fY a hcap
 | eO=>exact .eO
 | map hb=>
             rcases x.live _ _ _ hb with h|h
             . exact .map h
             . exact .iR _ h
 | iR v hb=>exact .iR v (x.dead _ hb)
 | yield hb=>
               rcases x.live _ _ _ hb with h|h
               . exact .yield h
               . exact .iG _ h
 | fn hf h1 h2 _ _ ih1 ih2=>exact .fn hf h1 h2 ih1 ih2
 | iG v hb=>exact .iG v (x.dead _ hb)
 | fO=>exact .fO
 | iface _ ih=>exact .iface ih
 | dh=>exact .dh
 | agg h _ ih=>exact .agg h ih
 | au h _ ih=>exact .au h ih
theorem VL.mono {ρ ρ':az}(x:Ext h h' ρ ρ' w w'){l:List AV}{m:List Value}(hv:VL ρ w l m):VL ρ' w' l m:=
 ⟨hv.1,fun i a b ha hb=>(hv.2 i a b ha hb).mono x⟩
theorem ER.mono {C:Cx}{ρ ρ':az}(x:Ext h h' ρ ρ' w w'){pe:List AV}{lo:List (Nat×AV)}{t:Array Value}(e:ER C ρ w pe lo t):ER C ρ' w' pe lo t:=
 ⟨e.size,e.nodup,e.lt,e.jH,fun i v t h1 h2=>(e.pe i v t h1 h2).mono x,fun t v h1=>let ⟨a,b,c⟩:=e.lo t v h1;⟨a,b,c.mono x⟩⟩
def jI (n:Nat)(ρ:az):az:=⟨fun b=>if b<n then ρ b else .fresh,ρ.X⟩
theorem cW.cut {ρ:az}{c:Nat}(n:Nat)(h:cW ρ c):cW (jI n ρ) c:=by
 refine⟨fun b d hb=>?_,h.2⟩;simp only[jI]at hb;split at hb
 . exact h.1 b d hb
 grind
theorem fC (h:bc l<=n):∀(i:Nat) x,l[i]? = some x->x.top<=n:=by
 induction l with
 | nil=>simp
 | cons v r ih=>
  simp only[bc]at h<;>grind
theorem nd (h:∀(i:Nat) x,l[i]? = some x->x.top<=n):bc l<=n:=by
 induction l with
 | nil=>simp[bc]
 | cons v r ih=>
  simp only[bc];have h0:=h 0 v rfl;have h1:=ih (fun i x hx=>h (i+1) x bS);omega
theorem V.ik {ρ ρ':az}(hρ:∀b,b<n->ρ' b=ρ b)(hF:∀c,cW ρ c->cW ρ' c){a:AV}{v:Value}(hv:V ρ w a v):a.top<=n->V ρ' w a v:=by
 induction hv with
 | db v=>exact fun _=>.db v
 | bool b=>exact fun _=>.bool b
 | int k n=>exact fun _=>.int k n
 | str s=>exact fun _=>.str s
 | dG=>exact fun _=>.dG
 | ptr o hb=>exact fun h=>.ptr o (by simp only[AV.top]at h;grind)
 | eE o c o' hb=>exact fun h=>.eE o c o' (by simp only[AV.top]at h;grind)
 | vp c o g hf hc _ ih=>exact fun h=>.vp c o g bS hc (fun i x hx=>ih i x hx (fC (by simpa only[AV.top] using h) i x hx))
 | ab=>exact fun _=>.ab
 | sl hb hl hcap hs=>exact fun h=>.sl (by simp only[AV.top]at h;grind) hl hcap hs
 | gA hb=>exact fun h=>.gA (by simp only[AV.top]at h;grind)
 | fB c o' hb hl hcap=>exact fun h=>.fB c o' (by simp only[AV.top]at h;grind) hl hcap
 | fX hb=>exact fun h=>.fX (by simp only[AV.top]at h;grind)
 | gB a hb=>exact fun h=>.gB a (by simp only[AV.top]at h;grind)
 | vs c o g hf hl hcap hc _ ih=>exact fun h=>.vs c o g bS hl hcap hc (fun i x hx=>ih i x hx (fC (by simpa only[AV.top] using h) i x hx))
 | ff hcap=>exact fun _=>.ff hcap
 | fY a hcap=>exact fun _=>.fY a hcap
 | eO=>exact fun _=>.eO
 | map hb=>exact fun h=>.map (by simp only[AV.top]at h;grind)
 | iR v hb=>exact fun h=>.iR v (by simp only[AV.top]at h;grind)
 | yield hb=>exact fun h=>.yield (by simp only[AV.top]at h;rw[hρ _ ac];exact hb)
 | @fn f fi ca _ _ hf h1 h2 _ _ ih1 ih2=>
  intro h;have hh:bc fi<=n/\bc ca<=n:=by
   cases f <;> simp only[AV.top]at h <;> exact⟨ac,ac⟩
  exact .fn hf h1 h2 (by grind[fC]) (by grind[fC])
 | iG v hb=>exact fun h=>.iG v (by simp only[AV.top]at h;grind)
 | fO=>exact fun _=>.fO
 | iface _ ih=>exact fun h=>.iface (ih (by simpa only[AV.top] using h))
 | dh=>exact fun _=>.dh
 | agg hl _ ih=>exact fun h=>.agg hl (fun i x y a b=>ih i x y a b (fC (by simpa only[AV.top] using h) i x a))
 | au hl _ ih=>exact fun h=>.au hl (fun i x y a b=>ih i x y a b (fC (by simpa only[AV.top] using h) i x a))
theorem V.cut {ρ:az}{a:AV}(hv:V ρ w a v):a.top<=n->V (jI n ρ) w a v:=
 hv.ik (fun b hb=>by simp only[jI];grind) (fun _ h=>h.cut n)
theorem V.top {ρ:az}(hn:∀b,n<=b->ρ b = .fresh){a:AV}{v:Value}(hv:V ρ w a v):a.top<=n:=by
 have key:∀b,ρ b≠.fresh->b+1<=n:=bS;induction hv with
 | ptr o hb=>exact key _ bS
 | eE o c o' hb=>exact key _ bS
 | vp c o g hf hc _ ih=>exact nd ih
 | sl hb _ _ _=>exact key _ bS
 | gA hb=>exact key _ bS
 | fB c o' hb _ _=>exact key _ bS
 | fX hb=>exact key _ bS
 | gB a hb=>exact key _ bS
 | vs c o g hf hl hcap hc _ ih=>exact nd ih
 | map hb=>exact key _ bS
 | iR v hb=>exact key _ bS
 | @yield b _ _ hb=>have:=key b bS;simp only[AV.top,bc];omega
 | @fn f fi ca fi' ca' hf h1 h2 _ _ ih1 ih2=>
  have a1:bc fi<=n:=nd fun i x hx=>by
   have hi:i<fi'.length:=h1 ▸ (b7.1 hx).1;exact ih1 i x fi'[i] hx (ci hi)
  have a2:bc ca<=n:=nd fun i x hx=>by
   have hi:i<ca'.length:=h2 ▸ (b7.1 hx).1;exact ih2 i x ca'[i] hx (ci hi)
  cases f <;> simp only[AV.top] <;> first|omega|grind
 | @iG b v hb=>have:=key b bS;simp only[AV.top,bc];omega
 | iface _ ih=>exact ih
 | @agg l m hl _ ih=>
  exact nd fun i x hx=>by
   have hi:i<m.length:=hl ▸ (b7.1 hx).1;exact ih i x m[i] hx (ci hi)
 | @au l m hl _ ih=>
  exact nd fun i x hx=>by
   have hi:i<m.length:=hl ▸ (b7.1 hx).1;exact ih i x m[i] hx (ci hi)
 | _=>simp[AV.top,bc]
end Go.Ab
namespace Go.Ab
variable {w w':World} {h:aa} {ρ:az} {b c:Nat} {O:Obj}
variable {P:Program} {gl:Nat->Option AV}
theorem IQ {a:Addr}(h:w'.heap[a.block]? = w.heap[a.block]?):w'.frozen? a=w.frozen? a:=by
 unfold j5;rw[h]
theorem BR.mono {h':aa}{ρ':az}(x:Ext h h' ρ ρ' w w'){b:Nat}(hρ:ρ' b=ρ b)
 (hh:∀c d,ρ b = .live c d->w'.heap[c]? = w.heap[c]?) {o:ba} (hb:BR P gl ρ w b o):BR P gl ρ' w' b o:=by
 cases o with
 | cells l e=>
  rcases hb with ⟨c,d,cs,fr,h1,h2,h3,h4,h5⟩|⟨h1,h2⟩
  . refine .inl ⟨c,d,cs,fr,hρ.trans h1,(hh c d h1).trans h2,h3,fun i hi=>?_,fun i x' y hx hy=>(h5 i x' y hx hy).mono x⟩;rw[IQ (w:=w) (hh c d h1)];grind
  . exact .inr ⟨hρ.trans h1,h2⟩
 | map es=>
  obtain⟨c,ms,clk,h1,h2,h3,h4⟩:=hb;exact⟨c,ms,clk,hρ.trans h1,(hh c 0 h1).trans h2,h3,fun i kx vx m hx hm=>let ⟨a,b⟩:=h4 i kx vx m hx hm;⟨a.mono x,b.mono x⟩⟩
 | iter s pos=>obtain⟨c,h1,h2⟩:=hb;exact⟨c,hρ.trans h1,(hh c 0 h1).trans h2⟩
 | hJ=>obtain⟨c,h1,h2⟩:=hb;exact⟨c,hρ.trans h1,(hh c 0 h1).trans h2⟩
 | hole=>exact hρ.trans hb
 | loop st pend pe ps a bd=>
  obtain⟨c,r,aR,N,h1,h2,h3,h4,h5,h6⟩:=hb;exact⟨c,r,aR,N,hρ.trans h1,(hh c 0 h1).trans h2,h3,h4,h5.mono x,h6⟩
theorem BR.live {o:ba}(hb:BR P gl ρ w b o):(∃c d,ρ b = .live c d)\/ρ b = .nil\/ρ b = .fresh:=by
 cases o with
 | cells l e=>
                rcases hb with ⟨c,d,_,_,h1,_⟩|⟨h1,_⟩
                . grind
                grind
 | map es=>obtain⟨c,_,_,h1,_⟩:=hb;grind
 | iter s pos=>obtain⟨c,h1,_⟩:=hb;grind
 | hJ=>obtain⟨c,h1,_⟩:=hb;grind
 | hole=>exact .inr (.inr hb)
 | loop=>obtain⟨c,_,_,_,h1,_⟩:=hb;grind
def az.dT (ρ:az)(b:Nat)(s:BS):az:=⟨fun x=>if x=b then s else ρ x,ρ.X⟩
@[simp] theorem az.alz (ρ:az)(b:Nat)(s:BS):(ρ.dT b s).X=ρ.X:=rfl
@[simp] theorem az.gC (ρ:az)(b:Nat)(s:BS):ρ.dT b s b=s:=by simp[az.dT]
theorem az.dz {x:Nat}{s:BS}(h:x≠b):ρ.dT b s x=ρ x:=by simp[az.dT,h]
theorem IS (hc:c<w.heap.size):(w.heap.push O)[c]? = w.heap[c]? := by
 grind
theorem Ext.alloc (m:Mem P gl ρ h w)(o:Option ba)(O:Obj)(s:BS)(hs:(∃d,s = .live w.heap.size d)\/s = .nil\/s = .dead) :
 Ext h (h++[o]) ρ (ρ.dT h.length s) w { w with heap:=w.heap.push O } where
 os:=rfl
 tape:=rfl
 output:=rfl
 size:=by simp
 len:=by simp
 X:=rfl
 db b hb:=by
  grind
 same b hb:=by
  have hlt:=(b7.1 hb).1;exact az.dz ac
 live b c d hb:=by
  have:b≠h.length:=fun e=>by rw[m.fresh b ac]at hb;cases hb
  exact .inl ((az.dz this).trans hb)
 dead b hb:=by
  have:b≠h.length:=fun e=>by rw[m.fresh b ac]at hb;cases hb
  exact(az.dz this).trans hb
 nil b hb:=by
  have:b≠h.length:=fun e=>by rw[m.fresh b ac]at hb;cases hb
  exact .inl ((az.dz this).trans hb)
 ck c hc _:=IS hc
 back b c d hb hc:=by
  by_cases e:b=h.length
  . subst e;rw[az.gC]at hb;grind
  . rw[az.dz e]at hb;grind
 shape c cs e fr hc:=⟨cs,fr,bS,rfl⟩
theorem Ext.drew (h:aa)(ρ:az)(w:World)(n:Nat):Ext h h ρ ρ w { w with drawn:=n }:=
 ⟨rfl,rfl,rfl,b8 _,b8 _,rfl,fun _ h=>h,fun _ _=>rfl,bS,fun _ h=>h,bS,be,bS,
  bS⟩
theorem Mem.ext {ρ':az}{h':aa}(m:Mem P gl ρ h w)(x:Ext h h' ρ ρ' w w')
 (hb:∀b o,h'[b]? = some (some o)->BR P gl ρ' w' b o) (hf:∀b,h'.length<=b->ρ' b = .fresh)
 (hi:∀b b' c d d',ρ' b = .live c d->ρ' b' = .live c d'->b=b') (hbd:∀b c d,ρ' b = .live c d->c<w'.heap.size):Mem P gl ρ' h' w':=
 ⟨hb,hf,hi,hbd,fun c hc=>gT (m.xb c (by rw[←x.X];exact hc)) x.size,fun b c d hl hX=>by
  rw[x.X]at hX;have hlt:=m.xb c hX;rcases x.back b c d hl hlt with h1|⟨b0,d0,h1,_⟩
  . exact m.xo _ _ _ h1 hX
  . exact m.xo _ _ _ h1 hX,fun g v hg=>(m.gl g v hg).mono x⟩
theorem Mem.alloc (m:Mem P gl ρ h w)(o:Option ba)(O:Obj)(s:BS)(hs:(∃d,s = .live w.heap.size d)\/s = .nil\/s = .dead)
 (ho:∀o',o=some o'->BR P gl (ρ.dT h.length s) { w with heap:=w.heap.push O } h.length o') :
 Mem P gl (ρ.dT h.length s) (h++[o]) { w with heap:=w.heap.push O }:=by
 have x:=Ext.alloc m o O s hs;refine m.ext x ?_ ?_ ?_ ?_
 . intro b o' hb;rcases i8 b h.length with hlt|heq|hgt
   . rw[g9 hlt]at hb;refine(m.dc b o' hb).mono x (az.dz ac) (fun c d hl=>IS (m.bound b c d hl))
   . grind
   grind
 . intro b hb;simp at hb;rw[az.dz ac];exact m.fresh b ac
 . intro b b' c d d' h1 h2;have bd:∀{x c d},ρ x = .live c d->c<w.heap.size:=fun h=>m.bound _ _ _ h
   by_cases e:b=h.length <;> by_cases e':b'=h.length
   . omega
   . subst e;rw[az.gC]at h1;rw[az.dz e']at h2;grind
   . subst e';rw[az.gC]at h2;rw[az.dz e]at h1;grind
   . rw[az.dz e]at h1;rw[az.dz e']at h2;exact m.inj b b' c d d' h1 h2
 . intro b c d hl;show c<(w.heap.push O).size;rw[Array.size_push];by_cases e:b=h.length
   . subst e;rw[az.gC]at hl;grind
   . rw[az.dz e]at hl;have:=m.bound b c d hl;omega
theorem Mem.drew (m:Mem P gl ρ h w)(n:Nat):Mem P gl ρ h { w with drawn:=n }:=
 m.ext (Ext.drew h ρ w n) (fun b o hb=>(m.dc b o hb).mono (Ext.drew h ρ w n) rfl be) m.fresh m.inj m.bound
def _root_.Go.World.dD (w:World)(c:Nat)(O:Obj):World:={ w with heap:=w.heap.setIfInBounds c O }
theorem pa (hc:c<w.heap.size):(w.dD c O).heap[c]? = some O:=by
 simp[World.dD,hc]
theorem Cc {c':Nat}(hc:c'≠c):(w.dD c O).heap[c']? = w.heap[c']? := by
 simp only[World.dD];grind
theorem alA {o:Option ba}(hb:b<h.length):(h.set b o)[b]? = some o:=by
 grind
theorem nf {b':Nat}{o:Option ba}(hb:b'≠b):(h.set b o)[b']? = h[b']? := by
 grind
theorem Ext.write (_m:Mem P gl ρ h w){b c d:Nat}{o0:ba}(h0:h[b]? = some (some o0))(hρ:ρ b = .live c d)(o:Option ba)(O:Obj)
 (hO:∀cs e fr,w.heap[c]? = some (.cells cs e fr)->∃cs' fr',O = .cells cs' e fr'/\cs'.size=cs.size) :
 Ext h (h.set b o) ρ ρ w (w.dD c O) where
 os:=rfl
 tape:=rfl
 output:=rfl
 size:=by simp[World.dD]
 len:=by simp
 X:=rfl
 db b' hb':=by
  grind
 same _ _:=rfl
 live _ _ _ h:=.inl h
 dead _ h:=h
 nil _ h:=.inl h
 ck c' hc' hu:=by
  have:c'≠c:=bS;exact Cc this
 back _ _ _ h _:=.inl h
 shape c' cs e fr hc':=by
  by_cases e':c'=c
  . subst e';obtain⟨cs',fr',rfl,hs⟩:=hO cs e fr hc';exact⟨cs',fr',pa bS,hs⟩
  . exact⟨cs,fr,by rw[Cc e'];exact hc',rfl⟩
theorem Mem.write (m:Mem P gl ρ h w){b c d:Nat}{o0:ba}(h0:h[b]? = some (some o0))(hρ:ρ b = .live c d)(o:Option ba)(O:Obj)
 (hO:∀cs e fr,w.heap[c]? = some (.cells cs e fr)->∃cs' fr',O = .cells cs' e fr'/\cs'.size=cs.size)
 (ho:∀o',o=some o'->BR P gl ρ (w.dD c O) b o'):Mem P gl ρ (h.set b o) (w.dD c O):=by
 have x:=Ext.write m h0 hρ o O hO;refine m.ext x ?_ ?_ m.inj ?_
 . intro b' o' hb';by_cases e:b'=b
   . grind
   . rw[nf e]at hb';exact(m.dc b' o' hb').mono x rfl (fun c' d' hl=>Cc (fun e'=>e (m.inj b' b c d' d (e' ▸ hl) hρ)))
 . intro b' hb';simp at hb';exact m.fresh b' hb'
 . intro b' c' d' hl;have:=m.bound b' c' d' hl;simpa[World.dD] using this
theorem Ext.forget {o0:ba}(h0:h[b]? = some (some o0))(hl:∀c d,ρ b = .live c d->c<w.heap.size) :
 Ext h (h.set b none) ρ (ρ.dT b .dead) w w where
 os:=rfl
 tape:=rfl
 output:=rfl
 size:=b8 _
 len:=by simp
 X:=rfl
 db b' hb':=by
  grind
 same b' hb':=by
  have:b'≠b:=bS;exact az.dz this
 live b' c d hb':=by
  by_cases e:b'=b
  . subst e;simp
  . exact .inl ((az.dz e).trans hb')
 dead b' hb':=by
  by_cases e:b'=b
  . subst e;simp
  . exact(az.dz e).trans hb'
 nil b' hb':=by
  by_cases e:b'=b
  . subst e;simp
  . exact .inl ((az.dz e).trans hb')
 ck _ _ _:=rfl
 back b' c d hb' _:=by
  by_cases e:b'=b
  . subst e;rw[az.gC]at hb';cases hb'
  . rw[az.dz e]at hb';grind
 shape _ cs _ fr h:=⟨cs,fr,h,rfl⟩
theorem Mem.forget (m:Mem P gl ρ h w){b:Nat}{o0:ba}(h0:h[b]? = some (some o0)):Mem P gl (ρ.dT b .dead) (h.set b none) w:=by
 have x:=Ext.forget (w:=w) h0 (fun c d hl=>m.bound b c d hl);have hlt:b<h.length:=(b7.1 h0).1;refine m.ext x ?_ ?_ ?_ ?_
 . intro b' o' hb';by_cases e:b'=b
   . grind
   . rw[nf e]at hb';exact(m.dc b' o' hb').mono x (az.dz e) be
 . intro b' hb';simp at hb';rw[az.dz ac];exact m.fresh b' hb'
 . intro b1 b2 c d d' h1 h2;by_cases e1:b1=b
   . subst e1;rw[az.gC]at h1;cases h1
   . by_cases e2:b2=b
     . subst e2;rw[az.gC]at h2;cases h2
     . rw[az.dz e1]at h1;rw[az.dz e2]at h2;exact m.inj _ _ _ _ _ h1 h2
 . intro b' c d hl;by_cases e:b'=b
   . subst e;rw[az.gC]at hl;cases hl
   . rw[az.dz e]at hl;exact m.bound _ _ _ hl
theorem Ext.move (m:Mem P gl ρ h w){b c d:Nat}{o0:ba}(h0:h[b]? = some (some o0))(hρ:ρ b = .live c d)(o:Option ba)(d':Nat) :
 Ext h (h.set b none++[o]) ρ ((ρ.dT b .dead).dT h.length (.live c d')) w w:=by
 have hlt:b<h.length:=(b7.1 h0).1;have x:=Ext.forget (w:=w) h0 (fun c d hl=>m.bound b c d hl);have ck:∀b',ρ b'≠.fresh->b'≠h.length:=fun b' hb e=>hb (m.fresh b' ac)
 refine⟨rfl,rfl,rfl,b8 _,be,rfl,?_,?_,?_,?_,?_,be,?_,bS⟩
 . grind
 . intro b' hb';have hlt':=(b7.1 hb').1;rw[az.dz ac];exact x.same b' hb'
 . intro b' c' d'' hb';rw[az.dz bS];exact x.live b' c' d'' hb'
 . intro b' hb';rw[az.dz bS];exact x.dead b' hb'
 . intro b' hb';rw[az.dz bS];exact x.nil b' hb'
 . intro b' c' d'' hb' hc;by_cases e:b'=h.length
   . subst e;rw[az.gC]at hb';grind
   . rw[az.dz e]at hb';exact x.back b' c' d'' hb' hc
theorem Mem.move (m:Mem P gl ρ h w){b c d:Nat}{o0:ba}(h0:h[b]? = some (some o0))(hρ:ρ b = .live c d)(o:Option ba)(d':Nat)
 (ho:∀o',o=some o'->BR P gl ((ρ.dT b .dead).dT h.length (.live c d')) w h.length o'):Mem P gl ((ρ.dT b .dead).dT h.length (.live c d')) (h.set b none++[o]) w:=by
 have hlt:b<h.length:=(b7.1 h0).1;have x:=Ext.move m h0 hρ o d';have m':=m.forget h0;refine m.ext x ?_ ?_ ?_ ?_
 . intro b' o' hb';rcases i8 b' h.length with hl|he|hg
   . rw[g9 bS]at hb';by_cases e:b'=b
     . grind
     . rw[nf e]at hb';exact(m.dc b' o' hb').mono x (by rw[az.dz ac,az.dz e]) be
   . grind
   grind
 . intro b' hb';simp at hb';rw[az.dz ac];exact m'.fresh b' bS
 . intro b1 b2 c1 d1 d2 h1 h2;have key:∀b1 d1,b1≠h.length->(ρ.dT b .dead) b1 = .live c d1->False:=fun b1 d1 e h1=>by
    by_cases e1:b1=b
    . subst e1;rw[az.gC]at h1;cases h1
    . rw[az.dz e1]at h1;exact e1 (m.inj _ _ _ _ _ h1 hρ)
   by_cases e1:b1=h.length <;> by_cases e2:b2=h.length
   . omega
   . subst e1;rw[az.gC]at h1;cases h1;rw[az.dz e2]at h2;grind
   . subst e2;rw[az.gC]at h2;cases h2;rw[az.dz e1]at h1;grind
   . rw[az.dz e1]at h1;rw[az.dz e2]at h2;exact m'.inj _ _ _ _ _ h1 h2
 . intro b' c' d'' hl;by_cases e:b'=h.length
   . subst e;rw[az.gC]at hl;cases hl;exact m.bound _ _ _ hρ
   . rw[az.dz e]at hl;exact m'.bound _ _ _ hl
end Go.Ab
namespace Go.Ab
variable {v x':Value} {l:List AV} {m:List Value} {t e:TypeId} {n:Nat}
variable {P:Program} {gl:Nat->Option AV} {ρ:az} {w:World}
theorem V.im {k:IntKind}{n:Int}(h:V ρ w (.int k n) v):v = .int k n:=by cases h;rfl
theorem V.nh {b:Bool}(h:V ρ w (.bool b) v):v = .bool b:=by cases h;rfl
theorem V.kD {s:List UInt8}(h:V ρ w (.str s) v):v = .string ⟨s.toArray⟩:=by cases h;rfl
theorem V.jJ (h:V ρ w (.agg l) v):∃m:List Value,v = .agg m.toArray/\VL ρ w l m:=by
 cases h with|agg h g=>exact⟨_,rfl,h,g⟩
theorem V.IT (h:V ρ w (.au l) v):∃m:List Value,v = .tuple m.toArray/\VL ρ w l m:=by
 cases h with|au h g=>exact⟨_,rfl,h,g⟩
theorem V.sO (h:VL ρ w l m):V ρ w (.agg l) (.agg m.toArray):=.agg h.1 h.2
theorem V.jg (h:VL ρ w l m):V ρ w (.au l) (.tuple m.toArray):=.au h.1 h.2
theorem V.undef:V ρ w bD undef:=V.jg VL.nil
theorem VL.get (h:VL ρ w l m){i:Nat}{x:AV}(hx:l[i]? = some x):∃y,m[i]? = some y/\V ρ w x y:=by
 have hi:i<m.length:=h.1 ▸ (b7.1 hx).1;exact⟨m[i],ci hi,h.2 i x _ hx (ci hi)⟩
theorem Cd {rec:Value->Option AV}(hr:∀v a,rec v=some a->V ρ w a v):∀(l:List Value) (r:List AV),qG rec l=some r->VL ρ w r l
 | [],r,h=>by simp[qG]at h;subst h;exact .nil
 | v::l,r,h=>by
  simp only[qG]at h;split at h
  . rename_i a r' h1 h2;cases h;exact .cons (hr v a h1) (Cd hr l r' h2)
  . cases h
theorem sP:∀(n:Nat) (v:Value) (a:AV),oW n v=some a->V ρ w a v
 | 0,_,_,h=>by simp[oW]at h
 | n+1,v,a,h=>by
  unfold oW at h;split at h
  . cases h;exact .bool _
  . cases h;exact .int _ _
  . grind[V.Ca]
  . cases h;exact .dG
  . cases h;exact .ab
  . cases h;exact .eO
  . cases h;exact .fO
  . cases h;exact .dh
  . cases h;exact V.fn (fi':=[]) (ca':=[]) be rfl rfl be be
  . rename_i cs;simp only[b5]at h;obtain⟨l,h1,rfl⟩:=h;exact V.sO (Cd (fun v a=>sP n v a) cs l h1)
  . rename_i cs;simp only[b5]at h;obtain⟨l,h1,rfl⟩:=h;exact V.jg (Cd (fun v a=>sP n v a) cs l h1)
  . cases h
theorem IU {t:Nat}:∀{l:List Nat} {k i:Nat},idx t l k=some i->∃j,i=k+j/\l[j]? = some t
 | [],_,_,h=>by simp[idx]at h
 | u::r,k,i,h=>by
  simp only[idx]at h;split at h
  . simp_all
  . obtain⟨j,h1,h2⟩:=IU h;exact⟨j+1,ac,bS⟩
theorem wy {t:Nat}{l:List Nat}{i:Nat}(h:idx t l 0=some i):l[i]? = some t:=by
 obtain⟨j,rfl,h2⟩:=IU h;grind
theorem wz {t:Nat}:∀{l:List Nat} {k:Nat},idx t l k=none->t∉l
 | [],_,_=>by simp
 | u::r,k,h=>by
  simp only[idx]at h;split at h
  . cases h
  . rename_i hu;have:=wz h;simp;exact⟨fun e=>hu e.symm,this⟩
structure Rel (C:Cx)(ρ:az)(s:St)(a:Act)(w:World):Prop where
 er:ER C ρ w s.pe s.lo a.tmps
 mem:Mem C.P C.gl ρ s.hp w
variable {C:Cx} {s:St} {a:Act}
theorem Tp (r:ER C ρ w s.pe s.lo a.tmps)(g:∀n v,C.gl n=some v->V ρ w v (.pointer (some ⟨n,0,none⟩))){x:Operand}{y:ay}(hc:ij C x=some y){v:AV}(hv:s.ae y=some v) :
 V ρ w v (a.eval x):=by
 cases x with
 | tmp t=>
  simp only[ij]at hc;split at hc
  . rename_i i hi;cases hc;exact r.pe i v t hv (wy hi)
  . cases hc;exact(r.lo t v hv).2.2
 | const c=>
  simp only[ij,b5]at hc;obtain⟨u,h1,rfl⟩:=hc;simp only[St.ae,c8.injEq]at hv;subst hv;exact sP 5 c _ h1
 | global n=>
  simp only[ij,b5]at hc;obtain⟨u,h1,rfl⟩:=hc;simp only[St.ae,c8.injEq]at hv;subst hv;exact g n _ h1
 | func f=>
  simp only[ij]at hc;cases hc;simp only[St.ae]at hv;cases hv;exact V.fn (fi':=[]) (ca':=[]) be rfl rfl be be
theorem Rel.ae (r:Rel C ρ s a w){x:Operand}{y:ay}(hc:ij C x=some y){v:AV}(hv:s.ae y=some v):V ρ w v (a.eval x):=
 Tp r.er r.mem.gl hc hv
theorem Rel.cM (r:Rel C ρ s a w):∀{xs:List Operand} {ys:List ay},iP C xs=some ys->∀{vs:List AV},s.cM ys=some vs->VL ρ w vs (xs.map a.eval)
 | [],ys,hc,vs,hv=>by
  simp[iP]at hc;subst hc;simp[St.cM]at hv;subst hv;exact .nil
 | x::xs,ys,hc,vs,hv=>by
  simp only[iP]at hc;split at hc
  . rename_i y l h1 h2;cases hc;simp only[St.cM]at hv;split at hv
    . rename_i v hv1;split at hv
      . rename_i vs' hv2;cases hv;exact .cons (r.ae h1 hv1) (r.cM h2 hv2)
      grind
    grind
  grind
theorem Tq {op:BinOp}{x y v:AV}{y':Value}(hx:V ρ w x x')(hy:V ρ w y y')(h:cU op x y=some v)(t:TypeId) :
 ∃v',(binOp op t x' y').run P w = .ok v' w/\V ρ w v v':=by
 unfold cU at h;split at h
 . rename_i k a k' b;obtain rfl:=hx.im;obtain rfl:=hy.im;split at h
   . split at h
     . cases h
     . rename_i hb;cases h;exact⟨_,by simp[binOp,Op.shift,hb] <;> rfl,.int _ _⟩
   . split at h
     . cases h
     . rename_i hb;cases h;exact⟨_,by simp[binOp,Op.shift,hb] <;> rfl,.int _ _⟩
   . rename_i op' h1 h2;split at h
     . rename_i hk;subst hk;split at h <;> first
        | (cases h;exact⟨_,by simp only[binOp];rw[if_neg be];rfl,.int _ _⟩)
        | (cases h;exact⟨_,by simp only[binOp];rw[if_neg be];rfl,.bool _⟩)
        | (split at h;cases h;rename_i hb;cases h;exact⟨_,by simp[binOp,Op.intDiv,hb] <;> rfl,.int _ _⟩)
        | cases h
     . cases h
 . rename_i a b;obtain rfl:=hx.kD;obtain rfl:=hy.kD;split at h
   . split at h
     . rename_i hl;cases h;refine⟨.string ⟨(a++b).toArray⟩,?_,.str _⟩;have hs:¬(((dN a.toArray).size+(dN b.toArray).size:Nat):Int) > IntKind.i64.max:=by
        have e1:(dN a.toArray).size=a.length:=by simp[f7]
        have e2:(dN b.toArray).size=b.length:=by simp[f7]
        rw[e1,e2];have:IntKind.i64.max=9223372036854775807:=by decide
        omega
       have e:(dN a.toArray)++(dN b.toArray)=⟨(a++b).toArray⟩:=by
        apply j6;simp
       simp only[binOp,Op.stringOp]<;>simp_all
     . cases h
   all_goals first
    | (cases h;exact⟨_,by simp[binOp,Op.stringOp] <;> rfl,.bool _⟩)
    | cases h
 . cases h
theorem Tr {op:UnOp}{x v:AV}(hx:V ρ w x x')(h:sx op x=some v):∃v',(Op.unary op x').run P w = .ok v' w/\V ρ w v v':=by
 unfold sx at h;split at h
 . obtain rfl:=hx.im;cases h;exact⟨_,by rfl,.int _ _⟩
 . obtain rfl:=hx.nh;cases h;exact⟨_,by rfl,.bool _⟩
 . obtain rfl:=hx.im;cases h;exact⟨_,by rfl,.int _ _⟩
 . cases h
theorem bZ {d:TypeDesc}(h:P.underlying t=some d):(underlying t).run P w = .ok d w:=by simp[underlying,h]
theorem wA {i:TypeInfo}(h:P.info? t=some i):(typeInfo t).run P w = .ok i w:=by simp[typeInfo,h]
theorem iH {i:TypeInfo}(h:P.info? t=some i):(sizeOf t).run P w = .ok i.size w:=by simp[sizeOf,typeInfo,h]
theorem IV {d:TypeDesc}(h:P.underlying t=some d):(isAgg t).run P w = .ok (BX d) w:=by
 simp only[isAgg,b9,bZ h,b6];cases d <;> rfl
theorem sQ {ag:Bool}(h:shapeOf P t=some (n,ag)):∃i d,P.info? t=some i/\P.underlying t=some d/\i.size=n/\BX d=ag:=by
 unfold shapeOf at h;grind
theorem Ts (h:VL ρ w l m){off n:Nat}{r:List AV}(hc:cut l off n=some r):VL ρ w r ((m.drop off).take n)/\r.length=n:=by
 unfold cut at hc;simp only at hc;split at hc
 . rename_i hl;cases hc;exact⟨(h.drop off).take n,hl⟩
 grind
theorem Tt (m:List Value)(off n:Nat):(m.toArray.extract off (off+n))=((m.drop off).take n).toArray:=by
 simp
theorem qK {ag:Bool}(hs:shapeOf P t=some (n,ag)){l:List AV}{m:List Value}(h:VL ρ w l m){off:Nat}{v:AV}(hv:partOf l off n ag=some v) :
 ∃v',(part t m.toArray off).run P w = .ok v' w/\V ρ w v v':=by
 obtain⟨i,d,h1,h2,rfl,rfl⟩:=sQ hs;unfold partOf at hv;simp only[part,b9,IV h2,b6];split at hv
 . rename_i hag;simp only[b5]at hv;obtain⟨r,hr,rfl⟩:=hv;obtain⟨hr1,hr2⟩:=Ts h hr;rw[if_pos hag];refine⟨.agg ((m.drop off).take i.size).toArray,?_,V.sO hr1⟩;simp only[b9,iH h1,b6,Tt];rfl
 . rename_i hag;rw[if_neg hag];obtain⟨y,hy1,hy2⟩:=h.get hv<;>simp_all
theorem Tu {i:Nat}{x:List AV}(hx:V ρ w (.au x) x'){v:AV}(h:x[i]? = some v):∃v',(Instr.extract x' i).run P w = .ok v' w/\V ρ w v v':=by
 obtain⟨m,rfl,hl⟩:=hx.IT;obtain⟨y,hy1,hy2⟩:=hl.get h;refine⟨y,?_,hy2⟩;have:m.toArray[i]? = some y:=by simpa using hy1
 simp only[Instr.extract,this];rfl
theorem Tv (hd:P.underlying t=some (.pointer e)){x y:AV}{x' y':Value}(hx:V ρ w x x')(hy:V ρ w y y'){r:Bool}
 (h:jT .ptr x y=some r):(Op.equalIn (n+1) t x' y').run P w = .ok r w:=by
 unfold jT at h;split at h
 all_goals first|contradiction|skip
 all_goals (cases h;cases hx <;> cases hy <;> simp[Op.equalIn,bZ hd])
theorem Tw (hd:P.underlying t=some (.slice e)){x y:AV}{x' y':Value}(hx:V ρ w x x')(hy:V ρ w y y'){r:Bool}
 (h:jT .slice x y=some r):(Op.equalIn (n+1) t x' y').run P w = .ok r w:=by
 unfold jT at h;split at h
 all_goals first|contradiction|skip
 all_goals (cases h;cases hx <;> cases hy <;> simp[Op.equalIn,bZ hd])
theorem Tx {k:TypeId}(hd:P.underlying t=some (.map k e)){x y:AV}{x' y':Value}(hx:V ρ w x x')(hy:V ρ w y y'){r:Bool}
 (h:jT .map x y=some r):(Op.equalIn (n+1) t x' y').run P w = .ok r w:=by
 unfold jT at h;split at h
 all_goals first|contradiction|skip
 all_goals (cases h;cases hx <;> cases hy <;> simp[Op.equalIn,bZ hd])
theorem Ty {ps rs:Array TypeId}{vr:Bool}(hd:P.underlying t=some (.func ps rs vr)){x y:AV}{x' y':Value}(hx:V ρ w x x')(hy:V ρ w y y'){r:Bool}
 (h:jT .func x y=some r):(Op.equalIn (n+1) t x' y').run P w = .ok r w:=by
 unfold jT at h;split at h
 all_goals first|contradiction|skip
 all_goals (cases h;cases hx <;> cases hy <;> simp[Op.equalIn,bZ hd])
theorem Tz {f d:Nat}(ih:∀(g:Bool) (T:TypeId) (t:iE),iQ P d g T=some t->∀(x y:AV) (x' y':Value) (r:Bool),V ρ w x x'->V ρ w y y'->eC f t x y=some r ->
 ∀n,f<=n->(Op.equalIn n T x' y').run P w = .ok r w){n:Nat}(hn:f<=n){xs ys:List AV}{xm ym:List Value}(hx:VL ρ w xs xm)(hy:VL ρ w ys ym) :
 ∀(l:List Field) (fs:List (Nat×Nat×Bool×iE)),sJ P (fun t=>iQ P d true t) l=some fs->∀r,goEq (fun t x y=>eC f t x y) fs xs ys=some r ->
  (Op.eqFields n xm.toArray ym.toArray l).run P w = .ok r w:=by
 intro l;induction l with
 | nil=>
  intro fs hf r h;simp[sJ]at hf;subst hf;simp[goEq]at h;subst h;rfl
 | cons fd l ihl=>
  intro fs hf r h;simp only[sJ]at hf;split at hf
  . rename_i l' hl';split at hf
    . rename_i hname;cases hf;simp only[Op.eqFields]<;>grind
    . rename_i hname;split at hf
      . rename_i k ag e hs he;cases hf;simp only[goEq]at h;split at h
        . rename_i a b ha hb;obtain⟨a',ha1,ha2⟩:=qK hs hx ha;obtain⟨b',hb1,hb2⟩:=qK hs hy hb;simp only[Op.eqFields];rw[if_pos bS];simp only[b9,ha1,hb1,b6];split at h
          . rename_i hr;rw[ih true fd.type e he a b a' b' true ha2 hb2 hr n hn];simp only[b6,f8,ce,if_false]<;>grind
          . rename_i hr;cases h;rw[ih true fd.type e he a b a' b' false ha2 hb2 hr n hn];simp
          . cases h
        . cases h
      grind
  grind
theorem TA {f d:Nat}(ih:∀(g:Bool) (T:TypeId) (t:iE),iQ P d g T=some t->∀(x y:AV) (x' y':Value) (r:Bool),V ρ w x x'->V ρ w y y'->eC f t x y=some r ->
 ∀n,f<=n->(Op.equalIn n T x' y').run P w = .ok r w){n:Nat}(hn:f<=n){xs ys:List AV}{xm ym:List Value}(hx:VL ρ w xs xm)(hy:VL ρ w ys ym)
 {e:TypeId} {k:Nat} {ag:Bool} {q:iE} (hs:shapeOf P e=some (k,ag)) (hc:P.cellsOf e=k) (he:iQ P d true e=some q) :
 ∀(m i:Nat) r,goEq (fun t x y=>eC f t x y) (sM k ag q m i) xs ys=some r ->
  (Op.eqItems n e (P.cellsOf e) xm.toArray ym.toArray (hZ i m)).run P w = .ok r w:=by
 intro m;induction m with
 | zero=>
  intro i r h;simp[sM,goEq]at h;subst h;rfl
 | succ m ihm=>
  intro i r h;simp only[sM,goEq]at h;rw[jq];split at h
  . rename_i a b ha hb;obtain⟨a',ha1,ha2⟩:=qK hs hx ha;obtain⟨b',hb1,hb2⟩:=qK hs hy hb;simp only[Op.eqItems,hc];simp only[b9,ha1,hb1,b6];split at h
    . rename_i hr;rw[ih true e q he a b a' b' true ha2 hb2 hr n hn];simp only[b6,f8,ce,if_false]<;>grind
    . rename_i hr;cases h;rw[ih true e q he a b a' b' false ha2 hb2 hr n hn];simp
    . cases h
  . cases h
theorem TB:∀(f d:Nat) (g:Bool) (T:TypeId) (t:iE),iQ P d g T=some t->∀(x y:AV) (x' y':Value) (r:Bool),V ρ w x x'->V ρ w y y'->eC f t x y=some r ->
 ∀n,f<=n->(Op.equalIn n T x' y').run P w = .ok r w:=by
 intro f;induction f with
 | zero=>intro d g T t _ x y x' y' r _ _ h;simp[eC]at h
 | succ f ih=>
  intro d g T t ht x y x' y' r hx hy h n hn;obtain⟨n,rfl⟩:∃m,n=m+1:=⟨n-1,ac⟩;cases d with
  | zero=>simp[iQ]at ht
  | succ d=>
   simp only[iQ]at ht;cases hu:P.underlying T with
   | none=>grind
   | some u=>
    simp only[hu]at ht;cases u <;> simp only[c8.injEq,reduceCtorEq]at ht
    case bool=>
     subst ht;simp only[eC]at h;split at h <;> simp_all
     obtain rfl:=hx.nh;obtain rfl:=hy.nh;simp[Op.equalIn,bZ hu,h]
    case int k=>
     subst ht;simp only[eC]at h;split at h <;> simp_all
     obtain rfl:=hx.im;obtain rfl:=hy.im;obtain⟨rfl,h⟩:=h;simp[Op.equalIn,bZ hu,h]
    case string=>
     subst ht;simp only[eC]at h;split at h <;> simp_all
     obtain rfl:=hx.kD;obtain rfl:=hy.kD;rw[run_equalIn_string w n T _ _ hu];simp[h]
    case pointer e=>subst ht;exact Tv hu hx hy (by simpa[eC] using h)
    case slice e=>subst ht;exact Tw hu hx hy (by simpa[eC] using h)
    case map k e=>subst ht;exact Tx hu hx hy (by simpa[eC] using h)
    case func ps rs vr=>subst ht;exact Ty hu hx hy (by simpa[eC] using h)
    case interface ms=>
     subst ht;simp only[eC]at h;generalize hg:(g && !ms.isEmpty)=g' at h;clear hg;split at h
     all_goals first|(rename_i heq;cases heq;done)|(rename_i heq _ _;cases heq;done)|skip
     all_goals first|(simp at h;done)|skip
     all_goals (cases hx;cases hy;first|(split at h;(cases h);(cases h;simp[Op.equalIn,bZ hu]))|(cases h;simp[Op.equalIn,bZ hu]))
    case struct fs=>
     split at ht
     . cases ht
     . rename_i hst;simp only[b5]at ht;obtain⟨l,hl,rfl⟩:=ht;simp only[eC]at h;split at h <;> try (simp_all;done)
       rename_i fs' xs ys heq;cases heq;obtain⟨xm,rfl,hxm⟩:=hx.jJ;obtain⟨ym,rfl,hym⟩:=hy.jJ;have hfo:P.fieldsOf T=fs:=by simp[Program.fieldsOf,hu]
       grind[run_equalIn_struct,Tz]
    case array m e=>
     split at ht
     . rename_i k ag q hs hq;cases ht;simp only[eC]at h;split at h <;> try (simp_all;done)
       rename_i fs' xs ys heq;cases heq;obtain⟨xm,rfl,hxm⟩:=hx.jJ;obtain⟨ym,rfl,hym⟩:=hy.jJ;obtain⟨i,dd,hi,_,hk,_⟩:=sQ hs;have hc:P.cellsOf e=k:=by simp[Program.cellsOf,hi,hk]
       rw[run_equalIn_array w n _ _ hu hi,List.range_eq_range'];grind[TA]
     grind
end Go.Ab
namespace Go.Ab
variable {l o n len esz dflt most r capC:Nat} {f:Field} {i:TypeInfo} {t e:TypeId} {cap:Option Nat} {x:Option AV} {a:Option Addr}
variable {P:Program} {gl:Nat->Option AV} {ρ:az} {w:World}
theorem TC {src dst:TypeId}{k k':IntKind}(hs:P.underlying src=some (.int k'))(hd:P.underlying dst=some (.int k)){x v:AV}{x':Value}(hx:V ρ w x x')
 (h:mT k x=some v):∃v',(convert src dst x').run P w = .ok v' w/\V ρ w v v':=by
 unfold mT at h;split at h
 . cases h;obtain rfl:=hx.im;exact⟨_,by simp[convert,bZ hs,bZ hd,Conv.intToInt] <;> rfl,.int _ _⟩
 . cases h
theorem TE {x v:AV}{x':Value}(hx:V ρ w x x')(h:BE x=some v)(t:TypeId)(pos:String)(dst:Option Tmp)(af:Array Edge)(g:Option (Nat×Bool))(e:Operand->Value)(X:Operand)(hX:e X=x') :
 ∃v',(execOp e ⟨dst,.nilCheck X,t,pos,af,g⟩).run P w = .ok (.value v') w/\V ρ w v v':=by
 unfold BE at h;simp only[execOp,hX];split at h <;> cases h
 . cases hx with
   | ptr _ hb=>exact⟨_,rfl,.ptr _ hb⟩
   | eE _ _ _ hb=>exact⟨_,rfl,.eE _ _ _ hb⟩
 . cases hx with
   | vp c o g hf hc hg=>exact⟨_,rfl,.vp c o g hf hc hg⟩
 . cases hx with
   | fn hf h1 h2 g1 g2=>exact⟨_,rfl,.fn hf h1 h2 g1 g2⟩
 . cases hx with
   | yield hb=>exact⟨_,rfl,.yield hb⟩
   | fn hf h1 h2 g1 g2=>grind
   | iG c hb=>exact⟨_,rfl,.iG c hb⟩
theorem Addr.iI (c o n:Nat):(⟨c,o,none⟩:Addr).add n=⟨c,o+n,none⟩:=by
 unfold Addr.add;simp
theorem Ce {l:List AV}{c:Nat}(h:V ρ w (.vp l) (.pointer (some ⟨c,o,none⟩)))(n:Nat):V ρ w (.vp (l.drop n)) (.pointer (some ⟨c,o+n,none⟩)):=by
 cases h with
 | vp c o g hf hc hg=>
  refine .vp c (o+n) (fun i=>g (n+i)) bS (fun i hi=>?_) (fun i x hx=>?_)
  . grind
  grind
theorem IW {l:List AV}{v:Value}(h:V ρ w (.vp l) v):∃c o,v = .pointer (some ⟨c,o,none⟩):=by
 cases h<;>grind
theorem TH {a:Addr}(hi:P.info? f.type=some i)(h0:i.size≠0):(fieldPlace a f).run P w = .ok (a.add f.offset) w:=by
 simp[fieldPlace,iH hi,h0]
theorem TK {fs:Array Field}(hu:P.underlying t=some (.struct fs))(hf:fs[n]? = some f)(hi:P.info? f.type=some i)(h0:i.size≠0)
 {x v:AV} {x':Value} (hx:V ρ w x x') (h:BD f.offset x=some v):∃v',(Instr.fieldAt t x' n).run P w = .ok v' w/\V ρ w v v':=by
 have key:∀a,x' = .pointer (some a)->(Instr.fieldAt t x' n).run P w = .ok (.pointer (some (a.add f.offset))) w:=by
  rintro a rfl;simp[Instr.fieldAt,bZ hu,hf,Instr.sureAddr,TH hi h0]
 unfold BD at h;split at h <;> cases h
 . cases hx with
   | ptr _ hb=>
    refine⟨_,key _ rfl,?_⟩;rw[Addr.iI,f6];exact .ptr _ hb
   | eE _ _ _ hb=>exact⟨_,key _ rfl,by rw[Addr.iI];exact .eE _ _ _ hb⟩
 . obtain⟨c,o,rfl⟩:=IW hx;refine⟨_,key _ rfl,?_⟩;grind[Addr.iI,Ce]
theorem qL (k:IntKind)(n:Int):(asIntOf (.int k n)).run P w = .ok (k,n) w:=rfl
theorem TL {l:List AV}{v:Value}(h:V ρ w (.vs l len cap) v)(hn:0<len):∃c o capC,v = .slice (some ⟨c,o,none⟩) len capC/\V ρ w (.vp l) (.pointer (some ⟨c,o,none⟩)):=by
 cases h with
 | vs c o g hf hl hcap hc hg=>exact⟨c,o,_,rfl,.vp c o g hf hc hg⟩
 | ff hcap=>omega
 | fY a hcap=>omega
theorem Cf (hu:P.underlying t=some (.slice e))(hi:P.info? e=some i){k:IntKind}{n:Int}{a:Addr}{len capC:Nat}(h0:0<=n)(h1:n<len) :
 (Instr.indexAt t (.slice (some a) len capC) (.int k n)).run P w = .ok (.pointer (some (a.add (n.toNat*i.size)))) w:=by
 simp[Instr.indexAt,qL,bZ hu,iH hi,h0,h1]
theorem Cg (hu:P.underlying t=some (.array len e))(hi:P.info? e=some i){k:IntKind}{n:Int}{a:Addr}(h0:0<=n)(h1:n<len) :
 (Instr.indexAt t (.pointer (some a)) (.int k n)).run P w = .ok (.pointer (some (a.add (n.toNat*i.size)))) w:=by
 simp[Instr.indexAt,qL,bZ hu,iH hi,h0,h1,Instr.sureAddr]
theorem IX {arr:Option Nat}(hu:P.underlying t=some (match arr with|some len=>.array len e|none=>.slice e))(hi:P.info? e=some i)
 {x y v:AV} {x' y':Value} (hx:V ρ w x x') (hy:V ρ w y y') (h:oF arr i.size x y=some v):∃v',(Instr.indexAt t x' y').run P w = .ok v' w/\V ρ w v v':=by
 unfold oF at h;split at h
 . rename_i k n;obtain rfl:=hy.im;split at h
   . split at h
     . rename_i hb;cases h;cases hx with
       | ptr _ hr=>
        refine⟨_,Cg hu hi hb.1 hb.2,?_⟩;rw[Addr.iI,f6];exact .ptr _ hr
       | eE _ _ _ hr=>exact⟨_,Cg hu hi hb.1 hb.2,by rw[Addr.iI];exact .eE _ _ _ hr⟩
     . cases h
   . split at h
     . rename_i hb;cases h;obtain⟨c,o,rfl⟩:=IW hx;refine⟨_,Cg hu hi hb.1 hb.2,?_⟩;grind[Addr.iI,Ce]
     . cases h
   . split at h
     . rename_i hb;cases h;obtain⟨h0,h1,rfl⟩:=hb;cases hx with
       | sl hr hl hcap hs=>
        refine⟨_,Cf hu hi h0 h1,?_⟩;rw[Addr.iI,f6];exact .ptr _ hr
       | gA hr=>omega
       | fB _ _ hr hl hcap=>exact⟨_,Cf hu hi h0 h1,by rw[Addr.iI];exact .eE _ _ _ hr⟩
       | fX hr=>omega
       | gB a hr=>omega
     . cases h
   . split at h
     . rename_i hb;cases h;obtain⟨h0,h1⟩:=hb;obtain⟨c,o,capC,rfl,hv⟩:=TL hx ac;refine⟨_,Cf hu hi h0 h1,?_⟩;grind[Addr.iI,Ce]
     . cases h
   . cases h
 . cases h
theorem TM (hu:P.underlying t=some .string){x y v:AV}{x' y':Value}(hx:V ρ w x x')(hy:V ρ w y y')(h:vG x y=some v) :
 ∃v',(Instr.index t x' y').run P w = .ok v' w/\V ρ w v v':=by
 unfold vG at h;split at h
 . rename_i s k n;obtain rfl:=hx.kD;obtain rfl:=hy.im;split at h
   . rename_i h0;simp only[b5]at h;obtain⟨c,hc,rfl⟩:=h;refine⟨.int .u8 c.toNat,?_,.int _ _⟩;have e:(dN s.toArray)[n.toNat]? = some c:=by
      have hlt:=(b7.1 hc).1;have:n.toNat<(dN s.toArray).size:=by simpa[f7] using hlt
      rw[getElem?_pos (dN s.toArray) n.toNat this];have h2:=(b7.1 hc).2;congr 1
     simp[Instr.index,qL,bZ hu,h0,e]
   . cases h
 . cases h
theorem TN {ag:Bool}(hu:P.underlying t=some (.array len e))(hs:shapeOf P e=some (esz,ag)){l:List AV}{x':Value}(hx:V ρ w (.agg l) x')
 {k:IntKind} {n:Int} (h0:0<=n) (h1:n<len) {v:AV} (h:partOf l (n.toNat*esz) esz ag=some v):∃v',(Instr.index t x' (.int k n)).run P w = .ok v' w/\V ρ w v v':=by
 obtain⟨m,rfl,hm⟩:=hx.jJ;obtain⟨i,d,hi,hd,rfl,rfl⟩:=sQ hs;obtain⟨v',h2,h3⟩:=qK hs hm h;refine⟨v',?_,h3⟩;simp[Instr.index,qL,bZ hu,iH hi,h0,h1,h2]
theorem TO {fs:Array Field}{sz:Nat}{ag:Bool}(hu:P.underlying t=some (.struct fs))(hf:fs[n]? = some f)(hs:shapeOf P f.type=some (sz,ag))
 {l:List AV} {x':Value} (hx:V ρ w (.agg l) x') {v:AV} (h:partOf l f.offset sz ag=some v):∃v',(Instr.field t x' n).run P w = .ok v' w/\V ρ w v v':=by
 obtain⟨m,rfl,hm⟩:=hx.jJ;obtain⟨v',h2,h3⟩:=qK hs hm h;refine⟨v',?_,h3⟩;simp[Instr.field,bZ hu,hf,asAgg,h2]
theorem nj {a:AV}{b:Value}(hx:V ρ w a b){dflt most r:Nat}(h:bR (some a) dflt most=some r) :
 (∀code,(Instr.sliceBound b most code).run P w = .ok r w)/\r<=most:=by
 unfold bR at h;split at h
 . grind
 . rename_i k n heq;cases heq;split at h
   . rename_i hb;cases h;obtain rfl:=hx.im;exact⟨fun code=>by simp[Instr.sliceBound,qL,hb.1,hb.2],ac⟩
   . cases h
 . cases h
theorem sR (h:bR none dflt most=some r):r=dflt:=by
 simp[bR]at h;omega
def VO (ρ:az)(w:World):Option AV->Option Value->Prop
 | none,none=>True
 | some a,some b=>V ρ w a b
 | _,_=>False
theorem Ch {isS:Bool}{cap:Nat}{lo hi mx:Option AV}{lo' hi' mx':Option Value}(hl:VO ρ w lo lo')(hh:VO ρ w hi hi')(hm:VO ρ w mx mx')
 {m h l:Nat} (h1:bR mx cap cap=some m) (h2:bR hi len m=some h) (h3:bR lo 0 h=some l) (hmh:mx=none\/hi≠none) :
 (Instr.sliceBounds isS len cap lo' hi' mx').run P w = .ok (l,h,m) w:=by
 unfold Instr.sliceBounds;cases mx with
 | none=>
  cases mx' with
  | some _=>exact hm.elim
  | none=>
   obtain rfl:=sR h1;cases hi with
   | none=>
    cases hi' with
    | some _=>exact hh.elim
    | none=>
     obtain rfl:=sR h2;cases lo with
     | none=>
      cases lo' with
      | some _=>exact hl.elim
      | none=>obtain rfl:=sR h3;simp
     | some a=>
      cases lo' with
      | none=>exact hl.elim
      | some b=>simp[(nj (P:=P) hl h3).1]
   | some c=>
    cases hi' with
    | none=>exact hh.elim
    | some d=>
     have e2:=(nj (P:=P) hh h2).1;cases lo with
     | none=>
      cases lo' with
      | some _=>exact hl.elim
      | none=>obtain rfl:=sR h3;simp[e2]
     | some a=>
      cases lo' with
      | none=>exact hl.elim
      | some b=>simp[e2,(nj (P:=P) hl h3).1]
 | some x=>
  cases mx' with
  | none=>exact hm.elim
  | some y=>
   have e1:=(nj (P:=P) hm h1).1;cases hi with
   | none=>grind
   | some c=>
    cases hi' with
    | none=>exact hh.elim
    | some d=>
     have e2:=(nj (P:=P) hh h2).1;cases lo with
     | none=>
      cases lo' with
      | some _=>exact hl.elim
      | none=>obtain rfl:=sR h3;simp[e1,e2]
     | some a=>
      cases lo' with
      | none=>exact hl.elim
      | some b=>simp[e1,e2,(nj (P:=P) hl h3).1]
theorem Ci (h:bR x dflt most=some r):r<=max dflt most:=by
 unfold bR at h;grind
theorem mr (hd:dflt<=most)(h:bR x dflt most=some r):r<=most:=by
 have:=Ci h;omega
theorem wC {most':Nat}(hm:most<=most')(h:bR x dflt most=some r):bR x dflt most'=some r:=by
 unfold bR at *
 grind
theorem TP (s:List UInt8)(l h:Nat):(dN s.toArray).extract l h=⟨((s.drop l).take (h-l)).toArray⟩:=by
 apply j6;simp
theorem TT {b h:Nat}(hx:V ρ w (.sl b o len esz cap) (.slice a len capC))(hlh:l<h)(hhc:h<=capC)(m:Nat)(hm:m<=capC)(hhm:h<=m)(cap':Option Nat)
 (hc':∀n,cap'=some n->m-l=n):V ρ w (.sl b (o+l*esz) (h-l) esz cap') (.slice (if m=l then a else a.map (·.add (l*esz))) (h-l) (m-l)):=by
 have hne:m≠l:=by omega
 rw[if_neg hne];cases hx with
 | sl hr hl hcap hs=>
  obtain⟨cs,e,fr,h1,h2⟩:=hs;simp only[f9];rw[Addr.iI,f6];refine .sl hr ac hc' ⟨cs,e,fr,h1,?_⟩;have e1:l*esz+(m-l)*esz=m*esz:=by rw[←iz];congr 1;omega
  have e2:m*esz<=capC*esz:=dO _ hm;omega
 | gA hr=>omega
 | fB _ _ hr hl hcap=>simp only[f9];rw[Addr.iI];exact .fB _ _ hr ac hc'
 | fX hr=>omega
 | gB a hr=>omega
theorem TV {c:List AV}{h:Nat}(hx:V ρ w (.vs c len cap) (.slice a len capC))(hlh:l<=h)(m:Nat)(hhm:h<=m)(cap':Option Nat)
 (hc':∀n,cap'=some n->m-l=n) (hm:m<=capC):V ρ w (.vs ((c.drop (l*esz)).take ((h-l)*esz)) (h-l) cap') (.slice (if m=l then a else a.map (·.add (l*esz))) (h-l) (m-l)):=by
 cases hx with
 | vs c' o g hf hl hcap hcc hg=>
  by_cases hne:m=l
  . rw[if_pos hne];have e1:h-l=0:=by omega
    rw[e1];simp only[iy,List.take_zero];exact .vs c' o g be ac hc' be be
  . rw[if_neg hne];simp only[f9];rw[Addr.iI];refine .vs c' (o+l*esz) (fun i=>g (l*esz+i)) bS ac hc' (fun i hi=>?_) (fun i x hx=>?_)
    . grind
    grind
 | ff hcap=>
  have:m=0:=by omega
  subst this;have:l=0:=by omega
  subst this;have:h=0:=by omega
  subst this;simp;exact .ff bS
 | fY a hcap=>
  have:m=0:=by omega
  subst this;have:l=0:=by omega
  subst this;have:h=0:=by omega
  subst this;simp;exact .fY a bS
theorem V.empty {c:Nat}(ha:a=none->c=0)(hs:∀x,a=some x->x.spot=none\/c=0)(hc:∀n,cap=some n->c=n):V ρ w (.vs [] 0 cap) (.slice a 0 c):=by
 cases a with
 | none=>obtain rfl:=ha rfl;exact .ff bS
 | some x=>
  obtain⟨b,o,sp⟩:=x;rcases hs _ rfl with h|rfl
  . obtain rfl:sp=none:=h;exact .vs b o (fun _=>Go.undef) be (j0 _) hc be be
  . exact .fY _ bS
theorem TW (hu:P.underlying t=some .string){s:List UInt8}{lo hi:Option AV}{lo' hi':Option Value}(hl:VO ρ w lo lo')(hh:VO ρ w hi hi')
 {h l:Nat} (h2:bR hi s.length s.length=some h) (h3:bR lo 0 h=some l) :
 (Instr.sliceAt t (.string ⟨s.toArray⟩) lo' hi' none).run P w = .ok (.string ⟨((s.drop l).take (h-l)).toArray⟩) w:=by
 have e:(dN s.toArray).size=s.length:=by simp[f7]
 have b:=Ch (P:=P) (isS:=false) (len:=s.length) (cap:=s.length) hl hh (show VO ρ w none none from trivial) (m:=s.length) (by rfl) h2 h3 (.inl rfl);simp only[Instr.sliceAt,Instr.slice,b9,bZ hu,b6];simp[e,b,TP]
theorem Cj (hu:P.underlying t=some (.slice e))(hi:P.info? e=some i){a:Option Addr}{len capC:Nat}{lo hi' mx:Option AV}{lo' hi'' mx':Option Value}
 (hl:VO ρ w lo lo') (hh:VO ρ w hi' hi'') (hm:VO ρ w mx mx') {h l m:Nat} (h1:bR mx capC capC=some m) (h2:bR hi' len m=some h) (h3:bR lo 0 h=some l) (hmh:mx=none\/hi'≠none) :
 (Instr.sliceAt t (.slice a len capC) lo' hi'' mx').run P w = .ok (.slice (if m=l then a else a.map (·.add (l*i.size))) (h-l) (m-l)) w:=by
 have b:=Ch (P:=P) (isS:=true) hl hh hm h1 h2 h3 hmh;simp only[Instr.sliceAt,Instr.slice,b9,bZ hu,b6];simp[b,iH hi]
theorem TX (hu:P.underlying t=some (.array n e))(hi:P.info? e=some i){a:Addr}{lo hi':Option AV}{lo' hi'':Option Value}
 (hl:VO ρ w lo lo') (hh:VO ρ w hi' hi'') {h l:Nat} (h2:bR hi' n n=some h) (h3:bR lo 0 h=some l) :
 (Instr.sliceAt t (.pointer (some a)) lo' hi'' none).run P w = .ok (.slice (some (if n=l then a else a.add (l*i.size))) (h-l) (n-l)) w:=by
 have b:=Ch (P:=P) (isS:=false) (len:=n) (cap:=n) hl hh (show VO ρ w none none from trivial) (m:=n) (by rfl) h2 h3 (.inl rfl);simp only[Instr.sliceAt,b9,bZ hu,b6];simp[b,iH hi,Instr.sureAddr]
theorem TY {m:Nat}(hm:m<=capC)(ha:∀x,a=some x->x.spot=none\/capC=0)(n:Nat)(c:Prop)[Decidable c]:∀x,(if c then a else a.map (·.add n))=some x->x.spot=none\/m-l=0:=by
 intro x hx;split at hx
 . grind
 . simp only[b5]at hx;obtain⟨y,hy,rfl⟩:=hx;rcases ha y hy with this|h
   . refine .inl ?_;unfold Addr.add;grind
   omega
theorem lG {x:AV}{x':Value}(hx:V ρ w x x')(hk:match x with | .ab | .sl .. | .vs .. => True|_=>False) :
 ∃a len capC,x' = .slice a len capC/\len<=capC/\(∀y,a=some y->y.spot=none\/capC=0)/\(a=none->capC=0):=by
 cases hx <;> simp at hk<;>grind
theorem sS {b len':Nat}(hx:V ρ w (.sl b o len esz cap) (.slice a len' capC)):len'=len/\∀n,cap=some n->capC=n:=by
 cases hx<;>grind
theorem sV {c:List AV}{len':Nat}(hx:V ρ w (.vs c len cap) (.slice a len' capC)):len'=len/\∀n,cap=some n->capC=n:=by
 cases hx<;>grind
theorem TZ (hl:len<=capC)(hc:∀n,cap=some n->capC=n):cap.getD len<=capC:=by
 cases cap<;>grind
theorem IY (hc:∀n,cap=some n->capC=n):∀n,cap.map (· - l)=some n->capC-l=n:=by
 simp_all
theorem IZ (hu:P.underlying t=some (.slice e))(hi:P.info? e=some i){b o len:Nat}{cap:Option Nat}{a:Option Addr}{len' capC:Nat}(hx:V ρ w (.sl b o len i.size cap) (.slice a len' capC))
 {lo hi' mx:Option AV} {lo' hi'' mx':Option Value} (hl:VO ρ w lo lo') (hh:VO ρ w hi' hi'') (hm:VO ρ w mx mx') {h l m:Nat}
 (h1:bR mx capC capC=some m) (h2:bR hi' len m=some h) (h3:bR lo 0 h=some l) (hmh:mx=none\/hi'≠none) (hhm:h<=m) (hmc:m<=capC) (cap':Option Nat) (hc':∀n,cap'=some n->m-l=n) :
 ∃v',(Instr.sliceAt t (.slice a len' capC) lo' hi'' mx').run P w = .ok v' w/\V ρ w (if l<h then .sl b (o+l*i.size) (h-l) i.size cap' else .vs [] 0 cap') v':=by
 obtain⟨_,_,_,he,hlc,hsp,hnil⟩:=lG hx trivial;cases he;obtain⟨rfl,hcap⟩:=sS hx;refine⟨_,Cj (P:=P) hu hi hl hh hm h1 h2 h3 hmh,?_⟩;have hlh:=mr (j0 _) h3;split
 . grind[TT]
 . rename_i hlt;have e0:h-l=0:=by omega
   rw[e0];refine V.empty (fun e=>?_) (TY hmc hsp _ _) hc';grind[Option.map_eq_none_iff]
theorem Ja (hu:P.underlying t=some (.slice e))(hi:P.info? e=some i){l0:List AV}{len:Nat}{cap:Option Nat}{a:Option Addr}{len' capC:Nat}(hx:V ρ w (.vs l0 len cap) (.slice a len' capC))
 {lo hi' mx:Option AV} {lo' hi'' mx':Option Value} (hl:VO ρ w lo lo') (hh:VO ρ w hi' hi'') (hm:VO ρ w mx mx') {h l m:Nat}
 (h1:bR mx capC capC=some m) (h2:bR hi' len m=some h) (h3:bR lo 0 h=some l) (hmh:mx=none\/hi'≠none) (hhm:h<=m) (hmc:m<=capC) (cap':Option Nat) (hc':∀n,cap'=some n->m-l=n) :
 ∃v',(Instr.sliceAt t (.slice a len' capC) lo' hi'' mx').run P w = .ok v' w/\V ρ w (.vs ((l0.drop (l*i.size)).take ((h-l)*i.size)) (h-l) cap') v':=by
 obtain⟨_,_,_,he,hlc,hsp,hnil⟩:=lG hx trivial;cases he;obtain⟨rfl,hcap⟩:=sV hx;exact⟨_,Cj (P:=P) hu hi hl hh hm h1 h2 h3 hmh,TV hx (mr (j0 _) h3) m hhm _ hc' hmc⟩
theorem Jb (hu:P.underlying t=some (.slice e))(hi:P.info? e=some i){x':Value}(hx:V ρ w .ab x')
 {lo hi' mx:Option AV} {lo' hi'' mx':Option Value} (hl:VO ρ w lo lo') (hh:VO ρ w hi' hi'') (hm:VO ρ w mx mx') {h l m:Nat}
 (h1:bR mx 0 0=some m) (h2:bR hi' 0 0=some h) (h3:bR lo 0 0=some l) (hmh:mx=none\/hi'≠none) :
 ∃v',(Instr.sliceAt t x' lo' hi'' mx').run P w = .ok v' w/\V ρ w .ab v':=by
 cases hx;have e0:=mr (b8 _) h1;obtain rfl:m=0:=by omega
 have e1:=mr (b8 _) h2;obtain rfl:h=0:=by omega
 have e2:=mr (b8 _) h3;obtain rfl:l=0:=by omega
 exact⟨_,Cj (P:=P) (a:=none) hu hi hl hh hm h1 h2 h3 hmh,by simpa using V.ab⟩
theorem Jc {d d':Nat}(hx:x≠none)(h:bR x d most=some r):bR x d' most=some r:=by
 cases x with
 | none=>grind
 | some a=>cases a <;> exact h
theorem Jd {k:mS} 
 (hk:match k with | .str=>P.underlying t=some .string | .sl=>∃e i,P.underlying t=some (.slice e)/\P.info? e=some i/\i.size=esz | .arr n=>∃e i,P.underlying t=some (.array n e)/\P.info? e=some i/\i.size=esz)
 {x v:AV} {x':Value} (hx:V ρ w x x') {lo hi mx:Option AV} {lo' hi' mx':Option Value} (hl:VO ρ w lo lo') (hh:VO ρ w hi hi') (hm:VO ρ w mx mx') (hmh:mx=none\/hi≠none)
 (h:jo k esz x lo hi mx=some v):∃v',(Instr.sliceAt t x' lo' hi' mx').run P w = .ok v' w/\V ρ w v v':=by
 cases k with
 | str=>
  cases x <;> cases mx <;> simp only[jo,reduceCtorEq]at h;cases mx' with
  | some _=>exact hm.elim
  | none=>
   obtain rfl:=hx.kD;split at h
   . rename_i hb;split at h
     . rename_i lb;cases h;exact⟨_,TW hk hl hh hb lb,.str _⟩
     . cases h
   . cases h
 | sl=>
  obtain⟨e,i,hu,hinf,rfl⟩:=hk;cases x <;> simp only[jo,reduceCtorEq]at h
  case ab=>
   cases mx with
   | none=>
    simp only at h;split at h
    . rename_i hb lb;cases h;exact Jb hu hinf hx hl hh hm (m:=0) (by rfl) hb lb hmh
    . cases h
   | some m0=>
    simp only at h;split at h
    . rename_i mb hb lb;cases h;exact Jb hu hinf hx hl hh hm mb hb lb hmh
    . cases h
  case sl b o len e' cap=>
   obtain⟨a,len',capC,rfl,hlc,hsp,hnil⟩:=lG hx trivial;obtain⟨rfl,hcap⟩:=sS hx;have hcc:=TZ hlc hcap;cases mx with
   | none=>
    simp only at h;split at h
    . rename_i he;subst he;split at h
      . rename_i h' hb;split at h
        . rename_i l' lb;have hhc:h'<=capC:=by
           have h1:=Ci hb;have h2:=Nat.max_le.2 ⟨hlc,hcc⟩;omega
          have:=IZ (P:=P) hu hinf hx hl hh hm (m:=capC) (by simp[bR]) (wC hcc hb) lb hmh hhc (b8 _) (cap.map (· - l')) (IY hcap)<;>grind
        . cases h
      . cases h
    . cases h
   | some m0=>
    simp only at h;split at h
    . rename_i he;subst he;split at h
      . rename_i m' mb;split at h
        . rename_i h' hb;split at h
          . rename_i l' lb;have hmc:m'<=capC:=by
             have h1:=Ci mb;have h2:=Nat.max_le.2 ⟨hlc,hcc⟩;omega
            have hhi:hi≠none:=by rcases hmh with h|h;cases h;exact h
            have hhm:h'<=m':=by
             cases hi with
             | none=>grind
             | some c=>
              cases hi' with
              | none=>exact hh.elim
              | some d=>exact(nj (P:=P) hh hb).2
            have:=IZ (P:=P) hu hinf hx hl hh hm (by grind[Jc,wC]) hb lb hmh hhm hmc (some (m'-l')) be;grind
          . cases h
        . cases h
      . cases h
    . cases h
  case vs l0 len cap=>
   obtain⟨a,len',capC,rfl,hlc,hsp,hnil⟩:=lG hx trivial;obtain⟨rfl,hcap⟩:=sV hx;cases mx with
   | none=>
    simp only at h;split at h
    . rename_i h' hb;split at h
      . rename_i l' lb;cases h;have hhc:h'<=len':=mr (b8 _) hb;exact Ja (P:=P) hu hinf hx hl hh hm (m:=capC) (by rfl) (wC hlc hb) lb hmh ac (b8 _) (cap.map (· - l')) (IY hcap)
      . cases h
    . cases h
   | some m0=>
    simp only at h;split at h
    . rename_i m' mb;split at h
      . rename_i h' hb;split at h
        . rename_i l' lb;cases h;have hmc:m'<=len':=mr (b8 _) mb;have hhi:hi≠none:=by rcases hmh with h|h;cases h;exact h
          have hhm:h'<=m':=by
           cases hi with
           | none=>grind
           | some c=>
            cases hi' with
            | none=>exact hh.elim
            | some d=>exact(nj (P:=P) hh hb).2
          exact Ja (P:=P) hu hinf hx hl hh hm (by grind[Jc,wC]) hb lb hmh hhm ac (some (m'-l')) be
        . cases h
      . cases h
    . cases h
 | arr n=>cases x <;> cases mx <;> simp only[jo,reduceCtorEq]at h
end Go.Ab
namespace Go.Ab
variable {m:List Value} {t ty:TypeId} {op:BinOp} {x y:Operand} {x' y':Value}
variable {P:Program} {gl:Nat->Option AV} {ρ:az} {w:World}
def ow (m:List Value)(off:Nat)(new:List Value):List Value:=m.take off++new++m.drop (off+new.length)
theorem VL.length {l:List AV}(h:VL ρ w l m):l.length=m.length:=h.1
theorem Ua {l new:List AV}{newm:List Value}(h:VL ρ w l m)(h':VL ρ w new newm)(off:Nat):VL ρ w (overwrite l off new) (ow m off newm):=by
 unfold overwrite ow;rw[h'.length];exact((h.take off).append h').append (h.drop _)
theorem Ub {new:List Value}{off:Nat}(h:off+new.length<=m.length):(ow m off new).length=m.length:=by
 simp[ow];omega
theorem Je {off:Nat}{x:Value}{r:List Value}(h:off+(r.length+1)<=m.length):ow m off (x::r)=ow (m.set off x) (off+1) r:=by
 apply List.ext_getElem?;intro i;unfold ow;simp only[i4,fT,ii,d9,c3,gF,i6,List.getElem?_set,List.getElem?_cons];grind
theorem Jf (off:Nat):∀(r:List Value) (k:Nat) (m:List Value),off+k+r.length<=m.length ->
 ((r.zipIdx k).foldl (fun (cs:Array Value) (p:Value×Nat)=>cs.setIfInBounds (off+p.2) p.1) m.toArray)=(ow m (off+k) r).toArray
 | [],k,m,_=>by simp[ow]
 | x::r,k,m,h=>by
  simp only[d9]at h;simp only[List.zipIdx_cons,List.foldl_cons];rw[List.setIfInBounds_toArray,Jf off r (k+1) (m.set (off+k) x) bS,Je ac];rfl
theorem V.one {x:AV}{v:Value}(h:V ρ w x v)(h1:x≠.db)(h2:∀l,x≠.agg l):v.cells = #[v]:=by
 cases h <;> first|rfl|exact absurd rfl h1|grind
theorem qM {x:AV}{v:Value}(h:V ρ w x v){l:List AV}(hl:x.cells=some l):VL ρ w l v.cells.toList:=by
 by_cases h2:∃l0,x = .agg l0
 . obtain⟨l0,rfl⟩:=h2;simp only[AV.cells,c8.injEq]at hl;subst hl;obtain⟨m,rfl,hm⟩:=h.jJ;simpa[Value.cells] using hm
 . have h1:x≠.db:=fun e=>by subst e;simp[AV.cells]at hl
   have h2':∀l0,x≠.agg l0:=bS;have hl':l=[x]:=by
    cases x <;> simp only[AV.cells,c8.injEq,reduceCtorEq]at hl <;> first|exact hl.symm|exact absurd rfl h1|grind
   rw[hl',h.one h1 h2'];exact VL.cons h VL.nil
theorem wD {place:Nat->Option (Nat×Nat)}:∀(vs:List (Nat×Nat×AV)) (ps:List (Nat×Value)) (l:List AV) (m:List Value) (l':List AV),
 vs.length=ps.length->(∀(i:Nat) o n v p,vs[i]? = some (o,n,v)->ps[i]? = some p->place p.1=some (o,n)/\V ρ w v p.2) ->
 VL ρ w l m->mh l vs=some l'->∃m':List Value,Instr.fill place m.toArray ps=some m'.toArray/\VL ρ w l' m'
 | [],[],l,m,l',_,_,hl,h=>by simp[mh]at h;subst h;exact⟨m,rfl,hl⟩
 | [],_::_,_,_,_,hlen,_,_,_=>by grind
 | _::_,[],_,_,_,hlen,_,_,_=>by grind
 | (o,n,v)::vs,(j,y)::ps,l,m,l',hlen,hall,hl,h=>by
  obtain⟨hp,hv⟩:=hall 0 o n v (j,y) rfl rfl;simp only[mh]at h;split at h
  . rename_i c hc;split at h
    . rename_i hb;have hcv:=qM hv hc;have hsz:y.cells.size=n:=by rw[←hb.1,hcv.length];simp
      have hfold:=Jf o y.cells.toList 0 m (by rw[←hcv.length,hb.1,←hl.length];omega);obtain⟨m',h1,h2⟩:=wD vs ps (overwrite l o c) (ow m o y.cells.toList) l' bS
        (fun i o' n' v' p' hi hp'=>hall (i+1) o' n' v' p' bS bS) (Ua hl hcv o) h
      refine⟨m',?_,h2⟩;have hp':place j=some (o,n):=hp;simp only[Instr.fill,hp'];have hcond:¬((decide (y.cells.size≠n) || decide (o+y.cells.size > m.toArray.size))=true):=by
       have h1:m.toArray.size=m.length:=by simp
       have h2:=hl.length;rw[h1];simp;omega
      rw[if_neg hcond];rw[←Array.foldl_toList,Array.toList_zipIdx];grind
    . cases h
  . cases h
theorem wE {C:Cx}{s:St}{a:Act}(r:Rel C ρ s a w){place:Nat->Option (Nat×Nat)}:∀{ps:List (Nat×Operand)} {cps:List (Nat×Nat×ay)},lE C place ps=some cps ->
 ∀{vs:List (Nat×Nat×AV)},s.parts cps=some vs->vs.length=(ps.map fun p=>(p.1,a.eval p.2)).length /\
  ∀(i:Nat) o n v p,vs[i]? = some (o,n,v)->(ps.map fun p=>(p.1,a.eval p.2))[i]? = some p->place p.1=some (o,n)/\V ρ w v p.2
 | [],cps,hc,vs,hv=>by
  simp[lE]at hc;subst hc;simp[St.parts]at hv;grind
 | (j,x)::ps,cps,hc,vs,hv=>by
  simp only[lE]at hc;split at hc
  . rename_i o n y l h1 h2 h3;cases hc;simp only[St.parts]at hv;split at hv
    . rename_i v hv1;split at hv
      . rename_i vs' hv2;cases hv;obtain⟨e1,e2⟩:=wE r h3 hv2;refine⟨bS,fun i o' n' v' p' hi hp=>?_⟩;cases i with
        | zero=>simp at hi hp;obtain⟨rfl,rfl,rfl⟩:=hi;subst hp;exact⟨h1,r.ae h2 hv1⟩
        | succ i=>grind
      grind
    grind
  grind
theorem wF {z:AV}(h:zeroOf P t=some z):∃v,(zeroValue t).run P w = .ok v w/\V ρ w z v:=by
 unfold zeroOf at h;split at h
 . rename_i i hi;split at h
   . rename_i v hv;exact⟨v,by simp[zeroValue,wA hi,hv],sP 5 v z h⟩
   . cases h
 . cases h
theorem run_places:∀(fs:List Field) (pl:List (Nat×Nat)),qH P fs=some pl ->
 (fs.mapM fun f=>do pure (f.offset,←sizeOf f.type):Sem (List (Nat×Nat))).run P w = .ok pl w
 | [],pl,h=>by simp[qH]at h;subst h;simp
 | f::fs,pl,h=>by
  simp only[qH]at h;split at h
  . rename_i i l h1 h2;cases h;simp only[List.mapM_cons,b9,iH h1,b6,dY];rw[run_places fs l h2];simp
  . cases h
theorem Uc {C:Cx}{s:St}{a:Act}(r:Rel C ρ s a w){t:TypeId}{z:AV}{zc:List AV}{fs:Array Field}{pl:List (Nat×Nat)}(hz:zeroOf C.P t=some z)(hzc:z.cells=some zc)(hu:C.P.underlying t=some (.struct fs))
 (hpl:qH C.P fs.toList=some pl) {ps:Array (Nat×Operand)} {cps:List (Nat×Nat×ay)} (hc:lE C (pl[·]?) ps.toList=some cps) {vs:List (Nat×Nat×AV)} (hv:s.parts cps=some vs)
 {l:List AV} (hf:mh zc vs=some l):∃v',(Instr.build t (ps.map fun p=>(p.1,a.eval p.2))).run C.P w = .ok v' w/\V ρ w (.agg l) v':=by
 obtain⟨zv,hz1,hz2⟩:=wF (P:=C.P) (ρ:=ρ) (w:=w) hz;have hzl:=qM hz2 hzc;obtain⟨e1,e2⟩:=wE r hc hv;obtain⟨m',h1,h2⟩:=wD vs _ zc _ l e1 e2 hzl hf;refine⟨.agg m'.toArray,?_,V.sO h2⟩;have hpl':=run_places (w:=w) fs.toList pl hpl;have hm:(fs.mapM fun f=>do pure (f.offset,←sizeOf f.type):Sem (Array (Nat×Nat))).run C.P w = .ok pl.toArray w:=by
  rw[Array.mapM_eq_mapM_toList,Sem.run_map,hpl'];rfl
 simp only[Instr.build,b9,hz1,b6,bZ hu,hm];simp_all
theorem Ud {C:Cx}{s:St}{a:Act}(r:Rel C ρ s a w){t e:TypeId}{n:Nat}{i:TypeInfo}{z:AV}{zc:List AV}(hz:zeroOf C.P t=some z)(hzc:z.cells=some zc)(hu:C.P.underlying t=some (.array n e))
 (hi:C.P.info? e=some i) {ps:Array (Nat×Operand)} {cps:List (Nat×Nat×ay)} (hc:lE C (fun j=>some (j*i.size,i.size)) ps.toList=some cps) {vs:List (Nat×Nat×AV)} (hv:s.parts cps=some vs)
 {l:List AV} (hf:mh zc vs=some l):∃v',(Instr.build t (ps.map fun p=>(p.1,a.eval p.2))).run C.P w = .ok v' w/\V ρ w (.agg l) v':=by
 obtain⟨zv,hz1,hz2⟩:=wF (P:=C.P) (ρ:=ρ) (w:=w) hz;have hzl:=qM hz2 hzc;obtain⟨e1,e2⟩:=wE r hc hv;obtain⟨m',h1,h2⟩:=wD (place:=fun j=>some (j*i.size,i.size)) vs _ zc _ l e1 e2 hzl hf;refine⟨.agg m'.toArray,?_,V.sO h2⟩;simp only[Instr.build,b9,hz1,b6,bZ hu,iH hi];simp_all
theorem Ck (mx:Bool):∀(l:List AV) (m:List Value) (k:IntKind) (a:Int) (v:AV),VL ρ w l m->oG mx (.int k a) l=some v ->
 ∃v',(m.foldlM (if mx then Builtin.max2 else Builtin.min2) (.int k a)).run P w = .ok v' w/\V ρ w v v'
 | [],m,k,a,v,hl,h=>by
  rw[hl.kC];simp[oG]at h;subst h;exact⟨_,rfl,.int _ _⟩
 | x::l,m,k,a,v,hl,h=>by
  obtain⟨y,m',rfl,hy,hl'⟩:=hl.cons_inv;unfold oG at h;split at h
  . grind
  . rename_i heq1 heq2;cases heq1;cases heq2;obtain rfl:=hy.im;split at h
    . rename_i hk;subst hk;obtain⟨v',h1,h2⟩:=Ck mx l m' _ _ v hl' h;refine⟨v',?_,h2⟩;cases mx
      . simp only[jD,b9,ce,if_false,Builtin.min2,dY,b6]at h1 ⊢;exact h1
      . simp only[jD,b9,if_true,Builtin.max2,dY,b6]at h1 ⊢;exact h1
    . cases h
  . cases h
variable {C:Cx} {s:St} {a:Act}
theorem pb (r:Rel C ρ s a w){x:Option Operand}{y:Option ay}(hc:mZ C x=some y){v:Option AV}(hv:s.cZ y=some v):VO ρ w v (x.map a.eval):=by
 cases x with
 | none=>simp[mZ]at hc;subst hc;simp[St.cZ]at hv;subst hv;trivial
 | some x0=>
  simp only[mZ,b5]at hc;obtain⟨y0,h1,rfl⟩:=hc;simp only[St.cZ,b5]at hv;obtain⟨u,h2,rfl⟩:=hv;exact r.ae h1 h2
theorem sW (h1:¬(x' = .nilIface/\y' = .nilIface))(h2:∀a b,¬(x' = .agg a/\y' = .agg b)):(eqGuard op t x y x' y').run P w = .ok () w:=by
 have key:∀op:BinOp,(op = .eql\/op = .neq)->(eqGuard op t x y x' y').run P w = .ok () w:=by
  intro op hop;unfold eqGuard;rcases hop with rfl|rfl;all_goals
   simp only[f8,ce,if_false];split
   . exact absurd ⟨rfl,rfl⟩ h1
   . exact absurd ⟨rfl,rfl⟩ (h2 _ _)
   . rfl
 cases op
 case eql=>grind
 case neq=>grind
 all_goals rfl
theorem Ue {ms:Array (String×TypeId)}(hu:P.underlying t=some (.interface ms))(hg:((!(mn x || mn y)) && !ms.isEmpty)=false) :
 (eqGuard op t x y .nilIface .nilIface).run P w = .ok () w:=by
 obtain⟨k,hk⟩:∃k,Op.maxDepth=k+1:=⟨9999,rfl⟩;have h3:(Op.eqGuardIn Op.maxDepth t .nilIface .nilIface).run P w = .ok (!ms.isEmpty) w:=by
  rw[hk];simp only[Op.eqGuardIn,b9,bZ hu,b6];rfl
 have key:∀op:BinOp,(op = .eql\/op = .neq)->(eqGuard op t x y .nilIface .nilIface).run P w = .ok () w:=by
  intro op hop;unfold eqGuard;rcases hop with rfl|rfl;all_goals
   simp only[f8,ce,if_false];cases x <;> cases y <;> simp only[mn,Bool.or_self,Bool.or_true,Bool.or_false,f8,Bool.not_false,Bool.true_and,Bool.false_and,if_true,if_false,ce]at hg ⊢;all_goals first
    | rfl
    | (simp only[b9,h3,b6,hg,ce,if_false];rfl)
 cases op
 case eql=>grind
 case neq=>grind
 all_goals rfl
theorem Uf {f n:Nat}{e:iE}{xa ya:AV}{r:Bool} 
 (hst:BY P t=false)
 (he:iQ P f (!(mn x || mn y)) t=some e) (hx:V ρ w xa x') (hy:V ρ w ya y') (hr:eC (n+1) e xa ya=some r):(eqGuard op t x y x' y').run P w = .ok () w:=by
 cases f with
 | zero=>simp[iQ]at he
 | succ f=>
 simp only[iQ]at he;cases hu:P.underlying t with
 | none=>grind
 | some u=>
  simp only[BY,hu]at he hst;cases u <;> simp only[c8.injEq,reduceCtorEq]at he
  case struct fs=>
   split at he
   . cases he
   . simp only[b5]at he;obtain⟨l,hl,rfl⟩:=he;cases xa <;> cases ya <;> simp only[eC,reduceCtorEq]at hr;obtain⟨xm,rfl,_⟩:=hx.jJ;obtain⟨ym,rfl,_⟩:=hy.jJ;exact run_eqGuard_agg w op t x y _ _ hst
  case array m e'=>
   split at he
   . cases he;cases xa <;> cases ya <;> simp only[eC,reduceCtorEq]at hr;obtain⟨xm,rfl,_⟩:=hx.jJ;obtain⟨ym,rfl,_⟩:=hy.jJ;exact run_eqGuard_agg w op t x y _ _ hst
   grind
  case interface ms=>
   subst he;cases xa <;> cases ya <;> simp only[eC,reduceCtorEq]at hr
   . cases hx;cases hy;exact sW be be
   . cases hx;cases hy;exact sW be be
   . split at hr
     . cases hr
     . rename_i hg;cases hx;cases hy;exact Ue hu bS
  all_goals
   subst he;refine sW ?_ ?_
   . rintro⟨rfl,rfl⟩;cases hx <;> cases hy <;> simp[eC,jT]at hr
   . rintro a b ⟨rfl,rfl⟩;cases hx <;> cases hy <;> simp[eC,jT]at hr
def qN:Value->Bool
 | .int _ _ | .float _ _ | .complex _ _ _ | .string _=>true
 | _=>false
theorem binOp_eql (h:qN x'=false):binOp .eql t x' y'=(do pure (.bool (←Op.equal t x' y'))):=by
 cases x' <;> simp only[qN,reduceCtorEq]at h <;> rfl
theorem binOp_neq (h:qN x'=false):binOp .neq t x' y'=(do pure (.bool (!(←Op.equal t x' y')))):=by
 cases x' <;> simp only[qN,reduceCtorEq]at h <;> rfl
theorem Ug {d n:Nat}{g:Bool}{e:iE}(hs:wj P t=false)(he:iQ P d g t=some e){xa ya:AV}{x':Value}(hx:V ρ w xa x'){b:Bool}(hb:eC (n+1) e xa ya=some b):qN x'=false:=by
 cases d with
 | zero=>simp[iQ]at he
 | succ d=>
 simp only[iQ]at he;cases hu:P.underlying t with
 | none=>grind
 | some u=>
  simp only[hu]at he;simp only[wj,hu]at hs;cases u <;> simp only[c8.injEq,reduceCtorEq]at he hs
  case struct fs=>
   split at he
   . cases he
   . simp only[b5]at he;obtain⟨l,hl,rfl⟩:=he;cases xa <;> cases ya <;> simp only[eC,reduceCtorEq]at hb;obtain⟨xm,rfl,_⟩:=hx.jJ;rfl
  case array m e'=>
   split at he
   . cases he;cases xa <;> cases ya <;> simp only[eC,reduceCtorEq]at hb;obtain⟨xm,rfl,_⟩:=hx.jJ;rfl
   grind
  all_goals
   subst he;cases hx <;> first|rfl|(cases ya <;> simp[eC,jT]at hb)
theorem iJ {e:Operand->Value}{dst:Option Tmp}{b:Builtin}{args:Array Operand}{ats:Array TypeId}{pos:String}{af:Array Edge}{gd:Option (Nat×Bool)} :
 (execOp e ⟨dst,.call ⟨.builtin b,args,ats⟩,ty,pos,af,gd⟩).run P w=(builtin b ats ty (args.map fun | .const _=>true|_=>false) (args.map e)).run P w:=by
 rfl
theorem iS {α:Type}{x:Array α}{l:List α}(h:x.toList=l):x=l.toArray:=by
 rw[←h]
theorem qO {x:List Operand}{y:ay}(h:iP C x=some [y]):∃x0,x=[x0]/\ij C x0=some y:=by
 match x,h with
 | [],h=>simp[iP]at h
 | [x0],h=>
  simp only[iP]at h;grind
 | x0::x1::r,h=>
  simp only[iP]at h;grind
theorem Cl {x:List Operand}{y z:ay}(h:iP C x=some [y,z]):∃x0 x1,x=[x0,x1]/\ij C x0=some y/\ij C x1=some z:=by
 match x,h with
 | [],h=>simp[iP]at h
 | x0::r,h=>
  simp only[iP]at h;split at h
  . rename_i a l h1 h2;cases h;obtain⟨x1,rfl,h3⟩:=qO h2;grind
  . cases h
def Jg (P:Program)(t:TypeId):mS->Prop
 | .str=>P.underlying t=some .string
 | .sl=>∃e,P.underlying t=some (.slice e)
 | .arr n=>∃e,P.underlying t=some (.array n e)
def sX:mS->AV->Option AV
 | .arr n,_=>some (.int .i64 n)
 | k,x=>vH k x
theorem Uh {k:mS}(hk:Jg P t k){x v:AV}{x':Value}(hx:V ρ w x x')
 (h:sX k x=some v):∃v',(Builtin.len_ #[t] ty #[x']).run P w = .ok v' w/\V ρ w v v':=by
 cases k with
 | arr n=>
  obtain⟨e,hu⟩:=hk;simp only[sX,c8.injEq]at h;subst h;refine⟨goInt n,?_,.int _ _⟩;simp[Builtin.len_,bZ hu]
 | str=>
  cases x <;> simp only[sX,vH,reduceCtorEq,c8.injEq]at h;subst h;obtain rfl:=hx.kD;refine⟨.int .i64 _,?_,.int _ _⟩;have hk':P.underlying t=some .string:=hk;simp only[Builtin.len_,List.getElem?_toArray,List.getElem?_cons_zero,b9,bZ hk',b6];rfl
 | sl=>
  obtain⟨e,hu⟩:=hk;have hnil:∀l,(x = .ab/\l=0)\/(∃b o es c,x = .sl b o l es c)\/(∃q c,x = .vs q l c)->∃v',(Builtin.len_ #[t] ty #[x']).run P w = .ok v' w/\V ρ w (.int .i64 l) v':=by
   intro l hl;have:∃a c,x' = .slice a l c:=by
    rcases hl with ⟨rfl,rfl⟩|⟨b,o,es,c,rfl⟩|⟨q,c,rfl⟩
    . cases hx;simp
    . obtain⟨a,l',c',rfl,_⟩:=lG hx trivial;obtain⟨rfl,_⟩:=sS hx;simp
    . obtain⟨a,l',c',rfl,_⟩:=lG hx trivial;obtain⟨rfl,_⟩:=sV hx;simp
   obtain⟨a,c,rfl⟩:=this;exact⟨goInt l,by simp[Builtin.len_,bZ hu],.int _ _⟩
  cases x <;> simp only[sX,vH,reduceCtorEq,c8.injEq]at h <;> subst h
  . grind
  . simp_all
  simp_all
theorem Ui {e:TypeId}(hu:P.underlying t=some (.slice e)){x:AV}{x':Value}(hx:V ρ w x x'){n:Nat}(h:x = .ab/\n=0\/(∃b o l es,x = .sl b o l es (some n))\/∃q l,x = .vs q l (some n)) :
 (Builtin.cap_ #[t] ty #[x']).run P w = .ok (.int .i64 n) w:=by
 have:∃a l,x' = .slice a l n:=by
  rcases h with ⟨rfl,rfl⟩|⟨b,o,l,es,rfl⟩|⟨q,l,rfl⟩
  . cases hx;simp
  . obtain⟨a,l',c',rfl,_⟩:=lG hx trivial;obtain⟨rfl,hc⟩:=sS hx;grind
  . obtain⟨a,l',c',rfl,_⟩:=lG hx trivial;obtain⟨rfl,hc⟩:=sV hx;grind
 obtain⟨a,l,rfl⟩:=this;simp[Builtin.cap_,bZ hu,goInt]
theorem Uj (r:Rel C ρ s a w){o:Oper}{io:bg}(hc:jG C o=some io)(hh:io.bF=false){v:AV}(hv:aY s io=some v) :
 ∃v',(execOp a.eval o).run C.P w = .ok (.value v') w/\V ρ w v v':=by
 obtain⟨dst,op,ty,pos,af,gd⟩:=o;cases op <;> simp only[jG]at hc
 case move x=>
  simp only[b5]at hc;obtain⟨y,h1,rfl⟩:=hc;exact⟨_,by rfl,r.ae h1 hv⟩
 case assign x=>
  simp only[b5]at hc;obtain⟨y,h1,rfl⟩:=hc;exact⟨_,by rfl,r.ae h1 hv⟩
 case pick c x y=>
  split at hc
  . rename_i c' x' y' h1 h2 h3;cases hc;simp only[aY]at hv;split at hv
    . rename_i t av bv hc' ha' hb';have e1:=(r.ae h1 hc').nh;cases hv;refine⟨_,by simp[execOp,e1,asBool] <;> rfl,?_⟩;cases t
      . exact r.ae h3 hb'
      . exact r.ae h2 ha'
    . rename_i t av hc' ha' hb';have e1:=(r.ae h1 hc').nh;split at hv
      . rename_i ht;subst ht;cases hv;exact⟨_,by simp[execOp,e1,asBool] <;> rfl,r.ae h2 ha'⟩
      grind
    . rename_i t bv hc' ha' hb';have e1:=(r.ae h1 hc').nh;split at hv
      . cases hv
      . rename_i ht;obtain rfl:t=false:=by grind
        cases hv;exact⟨_,by simp[execOp,e1,asBool] <;> rfl,r.ae h3 hb'⟩
    grind
  grind
 case build t ps=>
  split at hc
  . rename_i z hz;split at hc
    . rename_i zc fs hzc hu;split at hc
      . rename_i pl hpl;simp only[b5]at hc;obtain⟨cps,h1,rfl⟩:=hc;simp only[aY]at hv;split at hv
        . rename_i vs hvs;simp only[b5]at hv;obtain⟨l,hl,rfl⟩:=hv;obtain⟨v',h2,h3⟩:=Uc r hz hzc hu hpl h1 hvs hl;exact⟨v',by simp[execOp,h2],h3⟩
        grind
      grind
    . rename_i zc n e hzc hu;split at hc
      . rename_i i hi;simp only[b5]at hc;obtain⟨cps,h1,rfl⟩:=hc;simp only[aY]at hv;split at hv
        . rename_i vs hvs;simp only[b5]at hv;obtain⟨l,hl,rfl⟩:=hv;obtain⟨v',h2,h3⟩:=Ud r hz hzc hu hi h1 hvs hl;exact⟨v',by simp[execOp,h2],h3⟩
        grind
      grind
    grind
  grind
 case nilCheck x=>
  simp only[b5]at hc;obtain⟨y,h1,rfl⟩:=hc;simp only[aY,c7]at hv;obtain⟨u,h2,h3⟩:=hv;exact TE (r.ae h1 h2) h3 _ _ _ _ _ _ _ rfl
 case binOp op t x y u=>
  split at hc
  . rename_i x' y' h1 h2;split at hc
    . rename_i hcmp;split at hc
      . cases hc;simp[bg.bF]at hh
      split at hc
      . cases hc
      . rename_i hst;simp only[b5]at hc;obtain⟨e,he,rfl⟩:=hc;simp only[aY]at hv;split at hv
        . rename_i xa ya hx hy;split at hv
          . rename_i b hb;cases hv;have gx:=r.ae h1 hx;have gy:=r.ae h2 hy;have hg:=Uf (w:=w) (op:=op) (n:=99) bS he gx gy hb;have hE:=TB 100 20 _ t e he xa ya _ _ b gx gy hb 10000 ac;have hE':(Op.equal t (a.eval x) (a.eval y)).run C.P w = .ok b w:=hE;have hns:wj C.P t=false:=by
             simp only[jU,Bool.not_eq_true']at hcmp;exact hcmp.2
            have hcm:sN op=true:=by
             simp only[jU]at hcmp;exact hcmp.1
            have hnum:=Ug hns he gx hb;refine⟨_,?_,.bool _⟩;cases op <;> simp only[sN,ce]at hcm
            . simp[execOp,hg,binOp_eql hnum,hE']
            . simp[execOp,hg,binOp_neq hnum,hE']
          grind
        grind
    . rename_i hcmp;cases hc;simp only[aY]at hv;split at hv
      . rename_i xa ya hx hy;have gx:=r.ae h1 hx;have gy:=r.ae h2 hy;obtain⟨v',h3,h4⟩:=Tq (P:=C.P) gx gy hv t;have hg:(eqGuard op t x y (a.eval x) (a.eval y)).run C.P w = .ok () w:=by
         refine sW ?_ ?_
         . rintro⟨e1,e2⟩;rw[e1]at gx;rw[e2]at gy;cases gx <;> cases gy <;> simp[cU]at hv
         . rintro p q ⟨e1,e2⟩;rw[e1]at gx;rw[e2]at gy;cases gx <;> cases gy <;> simp[cU]at hv
        exact⟨v',by simp[execOp,hg,h3],h4⟩
      grind
  grind
 case unOp op t x=>
  simp only[b5]at hc;obtain⟨y,h1,rfl⟩:=hc;simp only[aY,c7]at hv;obtain⟨u,h2,h3⟩:=hv;obtain⟨v',h4,h5⟩:=Tr (P:=C.P) (r.ae h1 h2) h3;exact⟨v',by simp[execOp,h4],h5⟩
 case convert src dst x=>
  split at hc <;> try (cases hc;done)
  . rename_i k' k y hs hd h1;cases hc;simp only[aY,c7]at hv;obtain⟨u,h2,h3⟩:=hv;obtain⟨v',h4,h5⟩:=TC hs hd (r.ae h1 h2) h3;exact⟨v',by simp[execOp,h4],h5⟩
  . rename_i k y hs hd h1;cases hc;simp only[aY]at hv;split at hv
    . rename_i k0 n h2;cases hv;have e:=(r.ae h1 h2).im;refine⟨.string (Utf8.encode n),?_,V.Ca _⟩;simp[execOp,e,convert,bZ hs,bZ hd,Conv.intToString]
    grind
  . rename_i y hs hd h1;cases hc;simp only[aY]at hv;split at hv
    . rename_i st h2;cases hv;have e:=(r.ae h1 h2).kD;refine⟨_,?_,V.str _⟩;simp[execOp,e,convert,bZ hs,bZ hd]
    grind
  . split at hc
    . split at hc
      . cases hc
      . cases hc;simp[bg.bF]at hh
    grind
  . split at hc
    . cases hc;simp[bg.bF]at hh
    grind
  . split at hc
    . split at hc
      . cases hc
      . cases hc;simp[bg.bF]at hh
    grind
  . split at hc
    . split at hc
      . cases hc;simp[bg.bF]at hh
      grind
    grind
 case makeInterface t x=>
  split at hc
  . cases hc
  . rename_i u hni hu;simp only[b5]at hc;obtain⟨y,h1,rfl⟩:=hc;simp only[aY,b5]at hv;obtain⟨xa,h2,rfl⟩:=hv;refine⟨_,?_,.iface (r.ae h1 h2)⟩;cases u <;> first|(exact absurd rfl (hni _))|simp[execOp,Instr.makeInterface,bZ hu]
  grind
 case typeAssert x xt t ok=>
  split at hc
  . cases hc
  . rename_i u hni hu;split at hc
    . rename_i x' z h1 h2;cases hc;obtain⟨zv,hz1,hz2⟩:=wF (P:=C.P) (w:=w) (ρ:=ρ) h2;simp only[aY]at hv;split at hv
      . rename_i u0 va h3;have e0:=r.ae h1 h3;generalize hxv:a.eval x=xv at e0;cases e0 with
        | @iface _ _ v' hin=>
         split at hv
         . rename_i e;subst e;cases ok
           . cases hv;exact⟨v',by cases u <;> first|(exact absurd rfl (hni _))|simp[execOp,hxv,Instr.typeAssert,bZ hu],hin⟩
           . cases hv;exact⟨.tuple #[v',.bool true],by cases u <;> first|(exact absurd rfl (hni _))|simp[execOp,hxv,Instr.typeAssert,bZ hu],.jg (.cons hin (.cons (.bool _) .nil))⟩
         . rename_i e;cases ok
           . cases hv
           . cases hv;exact⟨.tuple #[zv,.bool false],by cases u <;> first|(exact absurd rfl (hni _))|simp[execOp,hxv,Instr.typeAssert,bZ hu,e,hz1],.jg (.cons hz2 (.cons (.bool _) .nil))⟩
      . rename_i h3;have e0:=r.ae h1 h3;generalize hxv:a.eval x=xv at e0;cases e0 with
        | dh=>
         cases ok
         . cases hv
         . cases hv;exact⟨.tuple #[zv,.bool false],by cases u <;> first|(exact absurd rfl (hni _))|simp[execOp,hxv,Instr.typeAssert,bZ hu,hz1],.jg (.cons hz2 (.cons (.bool _) .nil))⟩
      grind
    grind
  grind
 case makeFunc f fi ca=>
  split at hc
  . cases hc
  . rename_i hy;split at hc
    . rename_i fi' ca' h1 h2;cases hc;simp only[aY]at hv;split at hv
      . rename_i va vb h3 h4;cases hv;have g1:=r.cM h1 h3;have g2:=r.cM h2 h4;refine⟨_,by simp[execOp,Instr.makeFunc] <;> rfl,?_⟩;have e1:fi.map a.eval=(fi.toList.map a.eval).toArray:=by rw[←fm,d6]
        have e2:ca.map a.eval=(ca.toList.map a.eval).toArray:=by rw[←fm,d6]
        rw[e1,e2];refine .fn (fun l e=>hy (by subst e;rfl)) g1.1 g2.1 g1.2 g2.2
      grind
    grind
 case slice t x lo hi mx=>
  split at hc <;> try (cases hc;done)
  . rename_i x' l h hu h1 h2 h3 h4;cases hc;simp only[aY]at hv;split at hv
    . rename_i xa hx;split at hv
      . rename_i la ha ma hl hh' hm;split at hv
        . rename_i hmh;have e4:mx=none:=by cases mx with
            | none=>rfl
            | some m=>simp[mZ]at h4
          subst e4;simp only[St.cZ,c8.injEq]at hm;subst hm;obtain⟨v',h5,h6⟩:=Jd (P:=C.P) (t:=t) (k:=.str) (esz:=1) hu (r.ae h1 hx) (pb r h2 hl) (pb r h3 hh') (mx':=none) (show VO ρ w none none from trivial) (.inl rfl) hv;exact⟨v',by simp[execOp,h5],h6⟩
        grind
      grind
    grind
  . rename_i e x' l h m hu h1 h2 h3 h4;split at hc
    . rename_i i hi';cases hc;simp only[aY]at hv;split at hv
      . rename_i xa hx;split at hv
        . rename_i la ha ma hl hh' hm;split at hv
          . rename_i hmh;obtain⟨v',h5,h6⟩:=Jd (P:=C.P) (t:=t) (k:=.sl) (esz:=i.size) ⟨e,i,hu,hi',rfl⟩ (r.ae h1 hx) (pb r h2 hl) (pb r h3 hh') (pb r h4 hm) (by cases ma <;> cases ha <;> simp at hmh ⊢) hv;exact⟨v',by simp[execOp,h5],h6⟩
          grind
        grind
      grind
    grind
  . split at hc
    . cases hc;simp[bg.bF]at hh
    grind
 case fieldAddr t x f=>
  split at hc <;> try (cases hc;done)
  rename_i fs x' hu h1;split at hc <;> try (cases hc;done)
  rename_i fd hf;split at hc <;> try (cases hc;done)
  rename_i i hi';split at hc
  . cases hc
  . rename_i h0;cases hc;simp only[aY,c7]at hv;obtain⟨u,h2,h3⟩:=hv;obtain⟨v',h4,h5⟩:=TK hu hf hi' h0 (r.ae h1 h2) h3;exact⟨v',by simp[execOp,h4],h5⟩
 case field t x f=>
  split at hc <;> try (cases hc;done)
  rename_i fs x' hu h1;split at hc <;> try (cases hc;done)
  rename_i fd hf;split at hc <;> try (cases hc;done)
  rename_i n ag hs;cases hc;simp only[aY]at hv;split at hv
  . rename_i l hx;obtain⟨v',h4,h5⟩:=TO hu hf hs (r.ae h1 hx) hv;exact⟨v',by simp[execOp,h4],h5⟩
  grind
 case indexAddr t x i=>
  split at hc <;> try (cases hc;done)
  . rename_i n e x' i' hu h1 h2;split at hc <;> try (cases hc;done)
    rename_i inf hinf;cases hc;simp only[aY]at hv;split at hv
    . rename_i xa ia hx hi';obtain⟨v',h4,h5⟩:=IX (P:=C.P) (t:=t) (arr:=some n) hu hinf (r.ae h1 hx) (r.ae h2 hi') hv;exact⟨v',by simp[execOp,h4],h5⟩
    grind
  . rename_i e x' i' hu h1 h2;split at hc <;> try (cases hc;done)
    rename_i inf hinf;cases hc;simp only[aY]at hv;split at hv
    . rename_i xa ia hx hi';obtain⟨v',h4,h5⟩:=IX (P:=C.P) (t:=t) (arr:=none) hu hinf (r.ae h1 hx) (r.ae h2 hi') hv;exact⟨v',by simp[execOp,h4],h5⟩
    grind
 case index t x i=>
  split at hc <;> try (cases hc;done)
  . rename_i x' i' hu h1 h2;cases hc;simp only[aY]at hv;split at hv
    . rename_i xa ia hx hi';obtain⟨v',h4,h5⟩:=TM hu (r.ae h1 hx) (r.ae h2 hi') hv;exact⟨v',by simp[execOp,h4],h5⟩
    grind
  . rename_i n e x' i' hu h1 h2;split at hc <;> try (cases hc;done)
    rename_i sz ag hs;cases hc;simp only[aY]at hv;split at hv
    . rename_i l k m hx hi';split at hv
      . rename_i hb;have ei:=(r.ae h2 hi').im;obtain⟨v',h4,h5⟩:=TN hu hs (r.ae h1 hx) (k:=k) hb.1 hb.2 hv;exact⟨v',by simp[execOp,ei,h4],h5⟩
      grind
    grind
 case extract x i=>
  simp only[b5]at hc;obtain⟨y,h1,rfl⟩:=hc;simp only[aY]at hv;split at hv
  . rename_i l hx;obtain⟨v',h4,h5⟩:=Tu (P:=C.P) (r.ae h1 hx) hv;exact⟨v',by simp[execOp,h4],h5⟩
  grind
 case call c=>
  obtain⟨callee,args,ats⟩:=c;cases callee with
  | value f=>
   simp only at hc;split at hc
   . cases hc;simp[bg.bF]at hh
   grind
  | invoke x name=>
   simp only at hc;split at hc
   . cases hc;simp[bg.bF]at hh
   grind
  | builtin b=>
   simp only at hc;split at hc <;> try (cases hc;done)
   . -- len
     rename_i t x h1 h2;obtain rfl:=iS h1;obtain⟨x0,hx0,h3⟩:=qO h2;obtain rfl:=iS hx0;have fin:∀k,Jg C.P t k->io = .len k x ->
      ∃v',(execOp a.eval ⟨dst,.call ⟨.builtin .len,[x0].toArray,[t].toArray⟩,ty,pos,af,gd⟩).run C.P w = .ok (.value v') w/\V ρ w v v':=by
      rintro k hk rfl;simp only[aY]at hv;have:∃xa,V ρ w xa (a.eval x0)/\sX k xa=some v:=by
       cases k with
       | arr n=>exact⟨.db,.db _,hv⟩
       | str=>simp only[c7]at hv;obtain⟨u,h4,h5⟩:=hv;exact⟨u,r.ae h3 h4,h5⟩
       | sl=>simp only[c7]at hv;obtain⟨u,h4,h5⟩:=hv;exact⟨u,r.ae h3 h4,h5⟩
      obtain⟨xa,h4,h5⟩:=this;obtain⟨v',h6,h7⟩:=Uh (ty:=ty) hk h4 h5;refine⟨v',?_,h7⟩;rw[iJ];simp[builtin,h6]
     split at hc
     . rename_i n e hu;cases hc;exact fin (.arr n) ⟨e,hu⟩ rfl
     . cases hc;simp[bg.bF]at hh
     . rename_i hu;cases hc;exact fin .str hu rfl
     . rename_i e hu;cases hc;exact fin .sl ⟨e,hu⟩ rfl
     grind
   . -- cap
     rename_i t x h1 h2;obtain rfl:=iS h1;obtain⟨x0,hx0,h3⟩:=qO h2;obtain rfl:=iS hx0;split at hc <;> try (cases hc;done)
     rename_i e hu;cases hc;have fin:∀n,(∃xa,V ρ w xa (a.eval x0)/\(xa = .ab/\n=0\/(∃b o l es,xa = .sl b o l es (some n))\/∃q l,xa = .vs q l (some n)))->v = .int .i64 n ->
      ∃v',(execOp a.eval ⟨dst,.call ⟨.builtin .cap,[x0].toArray,[t].toArray⟩,ty,pos,af,gd⟩).run C.P w = .ok (.value v') w/\V ρ w v v':=by
      rintro n ⟨xa,h4,h5⟩ rfl;have h6:=Ui (ty:=ty) hu h4 h5;refine⟨_,?_,.int _ _⟩;rw[iJ];simp[builtin,h6]
     simp only[aY]at hv;split at hv <;> try (cases hv;done)
     . rename_i h4;cases hv;exact fin 0 ⟨_,r.ae h3 h4,be⟩ rfl
     . rename_i h4;cases hv;exact fin _ ⟨_,r.ae h3 h4,be⟩ rfl
     . rename_i h4;cases hv;exact fin _ ⟨_,r.ae h3 h4,be⟩ rfl
   . -- append
     split at hc
     . split at hc
       . cases hc;simp[bg.bF]at hh
       grind
     . split at hc
       . cases hc;simp[bg.bF]at hh
       grind
     grind
   . -- copy
     split at hc
     . split at hc
       . cases hc;simp[bg.bF]at hh
       grind
     grind
   . -- clear
     split at hc
     . split at hc
       . split at hc
         . cases hc;simp[bg.bF]at hh
         grind
       grind
     grind
   . -- unsafe.SliceData
     rename_i t x h1 h2;obtain rfl:=iS h1;obtain⟨x0,hx0,h3⟩:=qO h2;obtain rfl:=iS hx0;split at hc <;> try (cases hc;done)
     rename_i e hu;cases hc;simp only[aY]at hv;split at hv <;> try (cases hv;done)
     . rename_i h4;cases hv;have e0:=r.ae h3 h4;generalize hxv:a.eval x0=xv at e0;cases e0;refine⟨.pointer none,?_,.dG⟩;rw[iJ];simp[builtin,hxv,Lib.run_unsafeSliceData_nil]
     . rename_i b o len es cap h4;cases hv;have e0:=r.ae h3 h4;generalize hxv:a.eval x0=xv at e0;cases e0 with
       | @sl _ c d _ _ _ capC _ h hl hcap hb=>
        have hc0:capC≠0:=by omega
        refine⟨_,?_,.ptr o h⟩;rw[iJ];simp[builtin,hxv,Lib.run_unsafeSliceData_row (P:=C.P) w _ _ _ _ _ hc0]
       | @fB _ _ _ _ capC _ c o' h hl hcap=>
        have hc0:capC≠0:=by omega
        refine⟨_,?_,.eE o c o' h⟩;rw[iJ];simp[builtin,hxv,Lib.run_unsafeSliceData_row (P:=C.P) w _ _ _ _ _ hc0]
   . -- unsafe.String
     split at hc
     . split at hc
       . cases hc;simp[bg.bF]at hh
       grind
     grind
   . -- max
     rename_i xs h2;cases hc;simp only[aY]at hv;split at hv <;> try (cases hv;done)
     rename_i k n rest h4;obtain⟨y,m',he,hy,hl⟩:=(r.cM h2 h4).cons_inv;obtain rfl:=hy.im;obtain⟨v',h5,h6⟩:=Ck (P:=C.P) true rest m' k n v hl hv;refine⟨v',?_,h6⟩;rw[iJ];simp only[if_true]at h5;simp[builtin,Builtin.max_,he,h5]
   . rename_i xs h2;cases hc;simp only[aY]at hv;split at hv <;> try (cases hv;done)
     rename_i k n rest h4;obtain⟨y,m',he,hy,hl⟩:=(r.cM h2 h4).cons_inv;obtain rfl:=hy.im;obtain⟨v',h5,h6⟩:=Ck (P:=C.P) false rest m' k n v hl hv;refine⟨v',?_,h6⟩;rw[iJ];simp only[ce,if_false]at h5;simp[builtin,Builtin.min_,he,h5]
 all_goals exfalso
 case next x b=>cases b <;> simp at hc;obtain⟨_,_,rfl⟩:=hc;simp[bg.bF]at hh
 case makeMap t r=>cases r <;> simp at hc;subst hc;simp[bg.bF]at hh
 all_goals first
  | (cases hc;done)
  | (simp only[b5]at hc;obtain⟨_,_,rfl⟩:=hc;simp[bg.bF]at hh;done)
  | (cases hc;simp[bg.bF]at hh;done)
  | (
     repeat' (split at hc)
     all_goals first
      | (cases hc;done)
      | (cases hc;simp[bg.bF]at hh;done)
      | (simp only[b5]at hc;obtain⟨_,_,rfl⟩:=hc;simp[bg.bF]at hh;done))
end Go.Ab
namespace Go.Ab
variable {cs:Array Value} {e:TypeId} {O:Obj} {c:Nat} {fr:Nat×Nat}
variable {P:Program} {gl:Nat->Option AV} {ρ:az} {w:World} {h:aa}
def fg (P:Program)(gl:Nat->Option AV)(ρ:az)(h:aa)(w:World)(r:HR)(v':Value)(w':World):Prop:=
 ∃ρ',V ρ' w' r.v v'/\Mem P gl ρ' r.h w'/\Ext h r.h ρ ρ' w w'
theorem VL.toList {l:List AV}{m:Array Value}(hl:VL ρ w l m.toList):l.length=m.size:=by rw[hl.length];simp
theorem Jh (m:Mem P gl ρ h w){l:List AV}{cs:Array Value}(e:TypeId)(hl:VL ρ w l (cs.toList.take l.length))(hlen:l.length<=cs.size)(hex:jY P e=true->l.length=cs.size) :
 Mem P gl (ρ.dT h.length (.live w.heap.size 0)) (h++[some (.cells l e)]) { w with heap:=w.heap.push (.cells cs e) } /\
 Ext h (h++[some (.cells l e)]) ρ (ρ.dT h.length (.live w.heap.size 0)) w { w with heap:=w.heap.push (.cells cs e) }:=by
 have x:=Ext.alloc m (some (.cells l e)) (.cells cs e) (.live w.heap.size 0) be;refine⟨Mem.alloc m _ _ _ be ?_,x⟩;intro o' ho;cases ho;refine .inl ⟨w.heap.size,0,cs,(0,0),az.gC _ _ _,be,⟨ac,fun he=>⟨rfl,hex he⟩⟩,fun i _=>be,fun i a y hx hy=>?_⟩;have hi:i<l.length:=(b7.1 hx).1;refine(hl.2 i a y hx ?_).mono x<;>grind
theorem Uk (m:Mem P gl ρ h w){l:List AV}{cs:Array Value}(e:TypeId)(hl:VL ρ w l cs.toList) :
 Mem P gl (ρ.dT h.length (.live w.heap.size 0)) (h++[some (.cells l e)]) { w with heap:=w.heap.push (.cells cs e) } /\
 Ext h (h++[some (.cells l e)]) ρ (ρ.dT h.length (.live w.heap.size 0)) w { w with heap:=w.heap.push (.cells cs e) }:=
 Jh m e (by rw[hl.length,ip];exact hl) (by rw[hl.toList];simp) (fun _=>hl.toList)
theorem Cm {len esz capC:Nat}{cap:Option Nat}(hl:len<=capC)(hcap:∀n,cap=some n->capC=n)(hb:capC*esz<=cs.size) :
 V (ρ.dT h.length (.live w.heap.size 0)) { w with heap:=w.heap.push (.cells cs e) } (.sl h.length 0 len esz cap) (.slice (some ⟨w.heap.size,0,none⟩) len capC):=
 V.sl (d:=0) be hl hcap ⟨cs,e,(0,0),be,ac⟩
theorem Cn:V (ρ.dT h.length (.live w.heap.size 0)) { w with heap:=w.heap.push O } (.ptr h.length 0) (.pointer (some ⟨w.heap.size,0,none⟩)):=
 V.ptr (d:=0) 0 be
theorem readable (m:Mem P gl ρ h w){x:AV}{x':Value}(hx:V ρ w x x'){l:List AV}(hr:fP h x=some l) :
 ∃(c o:Nat) (g:Nat->Value),x' = .pointer (some ⟨c,o,none⟩)/\∀(i:Nat) y,l[i]? = some y->w.cell? ⟨c,o+i,none⟩=some (g i)/\V ρ w y (g i):=by
 cases x <;> simp only[fP,reduceCtorEq]at hr
 case ptr b off=>
  obtain⟨l0,e,hb',rfl⟩:∃l0 e,h[b]? = some (some (.cells l0 e))/\l0.drop off=l:=by
   unfold aa.at at hr;grind
  rcases m.dc b _ hb' with ⟨c,d,cs,fr,h1,h2,h3,h4,h5⟩|⟨h1,h2⟩
  . cases hx with
    | ptr _ hρ=>
     rw[h1]at hρ;cases hρ;refine⟨c,off+d,fun i=>cs.getD (off+d+i) undef,rfl,fun i y hy=>?_⟩;have hy':l0[off+i]? = some y:=by simpa using hy
     have hlt:off+i<l0.length:=(b7.1 hy').1;have hcs:cs[off+i+d]? = some (cs.getD (off+d+i) undef):=by
      have:off+d+i=off+i+d:=by omega
      rw[this];have hlt':off+i+d<cs.size:=by have:=h3.1;omega
      simp[hlt']
     refine⟨?_,h5 (off+i) y _ hy' hcs⟩;unfold i3;grind
    | eE _ _ _ hρ=>grind
  . subst h2;cases hx<;>grind
 case vp l0=>
  cases hr;cases hx with
  | vp c o g hf hc hg=>
   exact⟨c,o,g,rfl,fun i y hy=>⟨hc i (b7.1 hy).1,hg i y hy⟩⟩
theorem run_loadCellsFrom {c o:Nat}{g:Nat->Value}:∀(n i:Nat) (acc:Array Value),(∀j,i<=j->j<i+n->w.cell? ⟨c,o+j,none⟩=some (g j)) ->
 (loadCellsFrom ⟨c,o,none⟩ i n acc).run P w = .ok (acc++((hZ i n).map g).toArray) w
 | 0,i,acc,_=>by rfl
 | n+1,i,acc,hc=>by
  have h0:=hc i (b8 _) ac;simp only[loadCellsFrom,b9,Addr.iI,run_load,h0,b6];rw[run_loadCellsFrom n (i+1) _ (fun j h1 h2=>hc j ac ac)];simp[jq]
theorem Ji {t:TypeId}{n:Nat}{ag:Bool}(hs:shapeOf P t=some (n,ag)){c o:Nat}{g:Nat->Value}{l:List AV}
 (hr:∀(i:Nat) y,l[i]? = some y->w.cell? ⟨c,o+i,none⟩=some (g i)/\V ρ w y (g i)) {v:AV} (hv:partOf l 0 n ag=some v) :
 ∃v',(loadVar t ⟨c,o,none⟩).run P w = .ok v' w/\V ρ w v v':=by
 obtain⟨i,d,h1,h2,rfl,rfl⟩:=sQ hs;unfold partOf at hv;simp only[loadVar,b9,IV h2,b6];split at hv
 . rename_i hag;simp only[b5]at hv;obtain⟨r,hr',rfl⟩:=hv;unfold cut at hr';simp only[j3]at hr';split at hr'
   . rename_i hl;cases hr';have hl':i.size<=l.length:=by simp at hl;omega
     rw[if_pos hag];have hrun:=run_loadCellsFrom (P:=P) (w:=w) (c:=c) (o:=o) (g:=g) i.size 0 #[] (fun j _ hj=>by
      have hj':j<l.length:=by omega
      simp_all)
     refine⟨.agg ((hZ 0 i.size).map g).toArray,?_,V.sO ⟨bS,fun j x y hx hy=>?_⟩⟩
     . simp only[b9,iH h1,b6,loadCells,hrun];simp
     grind
   grind
 . rename_i hag;rw[if_neg hag];obtain⟨h3,h4⟩:=hr 0 v hv<;>simp_all
theorem Ul {x:AV}{v:Value}(hx:V ρ w x v)(h:cI x=true):v.oneCell'=true:=by
 cases hx <;> first|rfl|(simp[cI]at h)
theorem Um {o:Nat}(h:w.heap[c]? = some (.cells cs e fr)):w.cell? ⟨c,o,none⟩=cs[o]? := by
 unfold i3;simp[h]
theorem Un {o:Nat}(h:w.heap[c]? = some (.cells cs e fr))(v:Value) :
 w.setCell ⟨c,o,none⟩ v=w.dD c (.cells (cs.setIfInBounds o v) e fr):=by
 have hlt:=(c9.1 h).1;have hg:=(c9.1 h).2;unfold World.setCell World.dD;congr 1<;>grind
theorem Uo {O':Obj}:(w.dD c O).dD c O'=w.dD c O':=by
 unfold World.dD;simp
theorem Up (h:w.heap[c]? = some O):w.dD c O=w:=by
 have hlt:=(c9.1 h).1;have hg:=(c9.1 h).2;unfold World.dD;have:w.heap.setIfInBounds c O=w.heap:=by
  apply Array.ext_getElem?;intro i;rw[Array.getElem?_setIfInBounds];by_cases hi:c=i
  . grind
  . grind
 rw[this]
theorem Jj {i:Nat}{cs':Array Value}(h:w.heap[c]? = some (.cells cs e fr)) :
 (w.dD c (.cells cs' e fr)).frozen? ⟨c,i,none⟩=w.frozen? ⟨c,i,none⟩:=by
 unfold j5;grind[pa]
theorem Jk {c o:Nat}{e:TypeId}{fr:Nat×Nat}:∀(vs:List Value) (i:Nat) (w:World) (cs:Array Value),w.heap[c]? = some (.cells cs e fr)->o+i+vs.length<=cs.size ->
 (∀j,j<cs.size->w.frozen? ⟨c,j,none⟩=false)->(∀v∈vs,v.oneCell'=true) ->
 (storeCells ⟨c,o,none⟩ vs i).run P w = .ok () (w.dD c (.cells (ow cs.toList (o+i) vs).toArray e fr))
 | [],i,w,cs,h,_,_,_=>by
  simp only[storeCells,dY];have:ow cs.toList (o+i) []=cs.toList:=by simp[ow]
  rw[this,d6,Up h]
 | v::vs,i,w,cs,h,hl,hf,hv=>by
  simp only[d9]at hl;simp only[storeCells,b9,Addr.iI];have hlt:o+i<cs.size:=by omega
  rw[run_store P w _ v .plain bS,Um h];rw[show cs[o+i]? = some cs[o+i] from by simp];simp only[hf _ hlt,ce,if_false,b6];rw[Un h];have hc:=(c9.1 h).1;have hf':∀j,j<cs.size->(w.dD c (.cells (cs.setIfInBounds (o+i) v) e fr)).frozen? ⟨c,j,none⟩=false:=(by grind[Jj]);rw[Jk vs (i+1) _ (cs.setIfInBounds (o+i) v) (pa hc) bS bS bS];rw[Uo];have e1:(ow (cs.setIfInBounds (o+i) v).toList (o+(i+1)) vs)=ow cs.toList (o+i) (v::vs):=by
   rw[Je ac,Array.toList_setIfInBounds];rfl
  rw[e1]
theorem mu (m:Mem P gl ρ h w){b:Nat}{l:List AV}{e:TypeId}(hb:h.at b=some (.cells l e)) :
 h[b]? = some (some (.cells l e))/\BR P gl ρ w b (.cells l e):=by
 have:h[b]? = some (some (.cells l e)):=by
  unfold aa.at at hb;cases hq:h[b]? with
  | none=>grind
  | some q=>grind
 exact⟨this,m.dc b _ this⟩
theorem qP {b:Nat}{o:ba}(hb:h.at b=some o):h[b]? = some (some o):=by
 unfold aa.at at hb;grind
theorem sY (m:Mem P gl ρ h w){b:Nat}{l:List AV}{e:TypeId}(hb:h.at b=some (.cells l e)){c d:Nat}(hρ:ρ b = .live c d){off:Nat}{new:List AV}{nv:List Value}(hn:VL ρ w new nv)
 (hoff:off<=l.length) (hlen:∀cs e' fr,w.heap[c]? = some (.cells cs e' fr)->off+d+new.length<=cs.size) (hone:new.all cI=true) :
 ∃w',(storeCells ⟨c,off+d,none⟩ nv).run P w = .ok () w'/\Mem P gl ρ (h.put b (some (.cells (overwrite l off new) e))) w'/\Ext h (h.put b (some (.cells (overwrite l off new) e))) ρ ρ w w':=by
 obtain⟨h0,hbr⟩:=mu m hb;rcases hbr with ⟨c',d',cs,fr,h1,h2,h3,h4,h5⟩|⟨h1,_⟩
 . rw[hρ]at h1;cases h1;have hone':∀v∈nv,v.oneCell'=true:=by
    intro v hv;obtain⟨i,hi,rfl⟩:=List.mem_iff_getElem.1 hv;have hi':i<new.length:=by rw[hn.length];exact hi
    have ho:cI new[i]=true:=bS;exact Ul (hn.2 i new[i] nv[i] (ci hi') (ci hi)) ho
   have hlen':off+d+nv.length<=cs.size:=by rw[←hn.length];exact hlen cs e fr h2
   have hrun:=Jk (P:=P) (c:=c) (o:=off+d) (e:=e) (fr:=fr) nv 0 w cs h2 ac h4 hone';simp only[Nat.add_zero]at hrun;have hsz:(ow cs.toList (off+d) nv).toArray.size=cs.size:=by
    have:=Ub (m:=cs.toList) (new:=nv) (off:=off+d) ac;simpa using this
   have hO:∀cs0 e0 fr0,w.heap[c]? = some (.cells cs0 e0 fr0)->∃cs' fr',Obj.cells (ow cs.toList (off+d) nv).toArray e fr = .cells cs' e0 fr'/\cs'.size=cs0.size:=by
    intro cs0 e0 fr0 hq;rw[h2]at hq;cases hq;exact⟨_,_,rfl,hsz⟩
   have x:=Ext.write m h0 hρ (some (.cells (overwrite l off new) e)) (.cells (ow cs.toList (off+d) nv).toArray e fr) hO;refine⟨_,hrun,?_,x⟩;refine Mem.write m h0 hρ _ _ hO ?_;intro o' ho;cases ho;have hc:=m.bound _ _ _ hρ;have hle:Fits P e d (overwrite l off new).length cs.size:=by
    have h9:=hn.length;have Co:=h3.1;refine⟨by simp[overwrite];omega,fun he=>?_⟩;have Cp:=h3.2 he;refine⟨Cp.1,?_⟩;simp[overwrite];omega
   refine .inl ⟨c,d,_,fr,hρ,pa hc,bS,fun i hi=>by grind[Jj],fun i x' y hx hy=>?_⟩;refine V.mono x ?_;have hy':(ow cs.toList (off+d) nv)[i+d]? = some y:=by simpa using hy
   unfold overwrite at hx;unfold ow at hy';have hnl:=hn.length;simp only[i4,fT,ii,gF,i6]at hx hy';have t1:min off l.length=off:=by omega
   have t2:min (off+d) cs.toList.length=off+d:=by simp;omega
   rw[t1]at hx;rw[t2]at hy';by_cases k1:i<off
   . grind
   . by_cases k2:i<off+new.length
     . rw[if_pos ac,if_neg k1]at hx;rw[if_pos ac,if_neg ac]at hy';rw[show i+d-(off+d)=i-off from by omega]at hy';exact hn.2 _ x' y hx hy'
     grind
 grind
end Go.Ab
namespace Go.Ab
variable {P:Program} {gl:Nat->Option AV} {ρ:az} {w:World} {h:aa}
theorem run_loadCells {c o:Nat}{g:Nat->Value}{l:List AV}(hr:∀(i:Nat) y,l[i]? = some y->w.cell? ⟨c,o+i,none⟩=some (g i)/\V ρ w y (g i)){k:Nat}(hk:k<=l.length) :
 ∃cs:List Value,(loadCells ⟨c,o,none⟩ k).run P w = .ok cs.toArray w/\VL ρ w (l.take k) cs:=by
 have hrun:=run_loadCellsFrom (P:=P) (w:=w) (c:=c) (o:=o) (g:=g) k 0 #[] (fun j _ hj=>by
  have hj':j<l.length:=by omega
  simp_all)
 refine⟨(hZ 0 k).map g,by simpa[loadCells] using hrun,bS,fun j x y hx hy=>?_⟩;grind
theorem Uq (m:Mem P gl ρ h w){b:Nat}{l:List AV}{e:TypeId}(hb:h.at b=some (.cells l e)){c d:Nat}(hρ:ρ b = .live c d)(off:Nat) :
 ∃g:Nat->Value,∀(i:Nat) y,(l.drop off)[i]? = some y->w.cell? ⟨c,off+d+i,none⟩=some (g i)/\V ρ w y (g i):=by
 have hx:V ρ w (.ptr b off) (.pointer (some ⟨c,off+d,none⟩)):=.ptr off hρ;have hr:fP h (.ptr b off)=some (l.drop off):=by simp[fP,hb]
 obtain⟨c',o',g,he,hg⟩:=readable m hx hr;cases he;exact⟨g,hg⟩
theorem Jl:∀(s:List UInt8),VL ρ w (s.map fun c=>AV.int .u8 c.toNat) (s.map fun c=>Value.int .u8 c.toNat)
 | []=>.nil
 | _::s=>.cons (.int _ _) (Jl s)
theorem nk (m:Mem P gl ρ h w){x:AV}{x':Value}(hx:V ρ w x x'){l:List AV}{n:Nat}(hs:dV h x=some (l,n)){size:Nat}(hl:l.length=n*size) :
 (Builtin.lenOf x').run P w = .ok n w/\∀k,k<=n->∃cs:List Value,(Builtin.firstCells size k x').run P w = .ok cs.toArray w/\VL ρ w (l.take (k*size)) cs:=by
 cases x <;> simp only[dV,reduceCtorEq,c8.injEq,Prod.mk.injEq]at hs
 case str s=>
  obtain⟨rfl,rfl⟩:=hs;obtain rfl:=hx.kD;by_cases hs0:s=[]
  . subst hs0;exact⟨rfl,fun k hk=>⟨[],by simp only[Builtin.firstCells,dY];simp,by simpa using VL.nil⟩⟩
  obtain rfl:size=1:=by
   have h1:0<s.length:=bS;have h2:s.length*1=s.length*size:=by simpa using hl
   exact(Nat.eq_of_mul_eq_mul_left h1 h2).symm
  refine⟨by rfl,fun k hk=>⟨(s.take k).map fun c=>Value.int .u8 c.toNat,?_,?_⟩⟩
  . simp only[Builtin.firstCells,dY]<;>simp_all
  . rw[Nat.mul_one,←List.map_take];exact Jl _
 case ab=>
  obtain⟨rfl,rfl⟩:=hs;cases hx;exact⟨rfl,fun k _=>⟨[],rfl,by simpa using VL.nil⟩⟩
 case vs l0 len cap=>
  obtain⟨rfl,rfl⟩:=hs;cases hx with
  | vs c o g hf hlc hcap hc hg=>
   refine⟨rfl,fun k hk=>?_⟩;have hk':k*size<=l0.length:=by rw[hl];exact dO _ hk
   exact run_loadCells (P:=P) (fun i y hy=>⟨hc i (b7.1 hy).1,hg i y hy⟩) hk'
  | ff hcap=>exact⟨rfl,fun k _=>⟨[],rfl,by simpa using VL.nil⟩⟩
  | fY a hcap=>exact⟨rfl,fun k hk=>⟨[],by rw[Nat.le_zero.1 hk];(simp only[Builtin.firstCells,loadCells,iy];rfl),by simpa using VL.nil⟩⟩
 case sl b off len esz cap=>
  split at hs
  . rename_i l0 e hb;simp only[b5,Prod.mk.injEq]at hs;obtain⟨r,hcut,rfl,rfl⟩:=hs;unfold cut at hcut;simp only at hcut;split at hcut
    . rename_i hlen;cases hcut;obtain⟨h0,hbr⟩:=mu m hb;have hln:len*esz=len*size:=by rw[←hlen,hl]
      cases hx with
      | @sl _ c d _ _ _ capC _ hρ hlc hcap hs=>
       refine⟨rfl,fun k hk=>?_⟩;obtain⟨g,hg⟩:=Uq m hb hρ off;have hk':k*size<=(l0.drop off).length:=by
        have:(i5 (len*esz) (it off l0)).length<=(l0.drop off).length:=by rw[ii];omega
        have h3:k*size<=len*size:=dO _ hk;omega
       obtain⟨cs,h1,h2⟩:=run_loadCells (P:=P) hg hk';refine⟨cs,h1,?_⟩;grind[Nat.min_eq_left,dO]
      | gA hρ=>exact⟨rfl,fun k _=>⟨[],rfl,by grind[VL.nil]⟩⟩
      | fB _ _ hρ _ _=>rcases hbr.live with ⟨c,d,hl'⟩|hl'|hl' <;> (rw[hρ]at hl';cases hl')
      | fX hρ=>rcases hbr.live with ⟨c,d,hl'⟩|hl'|hl' <;> (rw[hρ]at hl';cases hl')
      | gB a hρ=>rcases hbr.live with ⟨c,d,hl'⟩|hl'|hl' <;> (rw[hρ]at hl';cases hl')
    grind
  . split at hs
    . rename_i hn;subst hn;cases hs;cases hx with
      | sl hρ hlc hcap hs=>exact⟨rfl,fun k hk=>run_loadCells (P:=P) (g:=fun _=>.bool false) (l:=[]) be bS⟩
      | gA hρ=>exact⟨rfl,fun k _=>⟨[],rfl,by simpa using VL.nil⟩⟩
      | fB _ _ hρ _ _=>exact⟨rfl,fun k hk=>run_loadCells (P:=P) (g:=fun _=>.bool false) (l:=[]) be bS⟩
      | fX hρ=>exact⟨rfl,fun k _=>⟨[],rfl,by simpa using VL.nil⟩⟩
      | gB a hρ=>exact⟨rfl,fun k hk=>⟨[],by rw[Nat.le_zero.1 hk];(simp only[Builtin.firstCells,loadCells,iy];rfl),by simpa using VL.nil⟩⟩
    grind
theorem Jm (n:Nat):∀(k c:Nat),256<=c->c<=2*n->Builtin.growBy n k c<=2*n
 | 0,c,_,h=>h
 | k+1,c,h0,h=>by
  simp only[Builtin.growBy];split
  . exact h
  . exact Jm n k _ ac ac
theorem Ur {n c:Nat}(h:c<n):Builtin.nextslicecap n c<=2*n:=by
 unfold Builtin.nextslicecap;grind[Jm]
theorem Us (z:Array Value)(n:Nat):(Builtin.zeroCells z n).size=n*z.size:=by simp[Builtin.zeroCells]
structure Cq (P:Program)(t u elem:TypeId)(i:TypeInfo)(z:Value):Prop where
 ht:P.underlying t=some (.slice elem)
 hu:(∃e,P.underlying u=some (.slice e))\/P.underlying u=some .string
 hi:P.info? elem=some i
 hz:i.zero=some z
 hs:z.cells.size=i.size
theorem Cr {t u ty elem:TypeId}{i:TypeInfo}{z:Value}(ht:Cq P t u elem i z){base:Option Addr}{len capC n:Nat}{y':Value}{new:Array Value}{w':World}
 (hn:(Builtin.lenOf y').run P w = .ok n w) (hf:(Builtin.firstCells i.size n y').run P w = .ok new w) (hle:len+n<=capC)
 (hs:(match base with|some a=>storeCells (a.add (len*i.size)) new.toList|none=>pure ():Sem Unit).run P w = .ok () w') :
 (Builtin.append_ #[t,u] ty #[.slice base len capC,y']).run P w = .ok (.slice base (len+n) capC) w':=by
 obtain⟨h1,h2,h3,h4,h5⟩:=ht;rcases h2 with ⟨e,h2⟩|h2;all_goals
  cases base with
  | none=>
   simp only[dY,Result.ok.injEq,true_and]at hs;subst hs;simp[Builtin.append_,bZ h1,bZ h2,sizeOf,typeInfo,h3,hn,hf,hle]
  | some a=>
   simp only at hs;simp[Builtin.append_,bZ h1,bZ h2,sizeOf,typeInfo,h3,hn,hf,hle,hs]
theorem Ut {t u ty elem:TypeId}{i:TypeInfo}{z:Value}(ht:Cq P t u elem i z){base:Option Addr}{len capC n:Nat}{y':Value}{ck new:Array Value}
 (hn:(Builtin.lenOf y').run P w = .ok n w) (hlt:capC<len+n) (hb:0<i.bytes) (hr:(len+n)*i.bytes<=cz)
 (ho:(Builtin.firstCells i.size len (.slice base len capC)).run P { w with drawn:=w.drawn+1 } = .ok ck { w with drawn:=w.drawn+1 })
 (hf:(Builtin.firstCells i.size n y').run P { w with drawn:=w.drawn+1 } = .ok new { w with drawn:=w.drawn+1 }) :
 ∃cap,len+n<=cap/\(Builtin.append_ #[t,u] ty #[.slice base len capC,y']).run P w =
  .ok (.slice (some ⟨w.heap.size,0,none⟩) (len+n) cap) { w with drawn:=w.drawn+1,heap:=w.heap.push (.cells (ck++new++Builtin.zeroCells z.cells (cap-(len+n))) elem) }:=by
 obtain⟨h1,h2,h3,h4,h5⟩:=ht;have hle:¬(len+n<=capC):=by omega
 have hroom:cz=70368744177664:=by decide
 have hN:len+n<=cz:=i7 (Nat.le_mul_of_pos_right _ hb) hr;have h48:¬(281474976710656<Builtin.nextslicecap (len+n) capC*i.bytes):=by
  have:=dO i.bytes (Ur hlt);rw[Nat.mul_assoc]at this;omega
 have hb':i.bytes≠0:=by omega
 refine⟨(Question.appendCap (len+n) capC elem).cut (w.tape w.drawn (.appendCap (len+n) capC elem)),by simp[Question.cut],?_⟩;have ho':(Builtin.firstCells i.size len (.slice base len capC)).run P w.drew = .ok ck w.drew:=ho;have hf':(Builtin.firstCells i.size n y').run P w.drew = .ok new w.drew:=hf;rcases h2 with ⟨e,h2⟩|h2;all_goals
  simp[Builtin.append_,bZ h1,bZ h2,sizeOf,typeInfo,zeroValue,h3,h4,hn,hle,h48,hb',Question.forced,newRow,ho',hf'];rfl
theorem VL.Uu {l:List AV}{m m':List Value}(h:VL ρ w l (m.take l.length)):VL ρ w l ((m++m').take l.length):=by
 rw[List.take_append_of_le_length]
 . exact h
 . have:=h.length<;>grind
theorem Uv {h0:List (Option ba)}{n:Nat}(hn:h0.length=n)(x y:Option ba):aa.put (h0++[x]) n y=h0++[y]:=by
 subst hn;unfold aa.put;simp
theorem Uw (m:Mem P gl ρ h w){t u ty elem:TypeId}{i:TypeInfo}{z:Value}(ht:Cq P t u elem i z){x y:AV}{x' y':Value}(hx:V ρ w x x')(hy:V ρ w y y')
 (hne:jY P elem=false) {r:HR} (ha:gw elem i.size i.bytes h x y=some r) :
 ∃v' w',(Builtin.append_ #[t,u] ty #[x',y']).run P w = .ok v' w'/\fg P gl ρ h w r v' w':=by
 unfold gw at ha;split at ha
 . cases ha
 . rename_i new n hsc;split at ha
   . rename_i hcond;obtain⟨hnl,hb,hone⟩:=hcond;obtain⟨hlen,hfirst⟩:=nk m hy hsc hnl;obtain⟨hlen',hfirst'⟩:=nk (m.drew (w.drawn+1)) (hy.mono (Ext.drew h ρ w _)) hsc hnl;obtain⟨nv,hf,ml⟩:=hfirst n (b8 _);obtain⟨nv',hf',hnv'⟩:=hfirst' n (b8 _);rw[←hnl,ip]at ml hnv';have none_case:n=0->(∃base len capC,x' = .slice base len capC/\len<=capC)->r=⟨x,h,[]⟩->∃v' w',(Builtin.append_ #[t,u] ty #[x',y']).run P w = .ok v' w'/\fg P gl ρ h w r v' w':=by
      rintro rfl ⟨base,len,capC,rfl,hlc⟩ rfl;have hnv0:nv=[]:=by
       have:=ml.length;rw[hnl,iy]at this;exact bS
      subst hnv0;refine⟨_,w,Cr ht hlen hf ac ?_,ρ,ac,m,Ext.refl _ _ _⟩;cases base <;> simp[storeCells]
     have new_case:∀(base:Option Addr) (len capC:Nat) (oldl:List AV) (ck:List Value) (h0:aa) (ρ0:az),x' = .slice base len capC->capC<len+n->(len+n)*i.bytes<=cz->oldl.length=len*i.size ->
      (Builtin.firstCells i.size len x').run P { w with drawn:=w.drawn+1 } = .ok ck.toArray { w with drawn:=w.drawn+1 } ->
      Mem P gl ρ0 h0 { w with drawn:=w.drawn+1 }->Ext h h0 ρ ρ0 w { w with drawn:=w.drawn+1 }->VL ρ0 { w with drawn:=w.drawn+1 } oldl ck->VL ρ0 { w with drawn:=w.drawn+1 } new nv'->h0.length=h.length ->
      ∀wr,r=⟨.sl h.length 0 (len+n) i.size none,h0++[some (.cells (oldl++new) elem)],wr⟩ ->
      ∃v' w',(Builtin.append_ #[t,u] ty #[x',y']).run P w = .ok v' w'/\fg P gl ρ h w r v' w':=by
      rintro base len capC oldl ck h0 ρ0 rfl hlt hroom hol hfo m0 x0 ho hn0 hl0 wr rfl;obtain⟨cap,hcap,hrun⟩:=Ut (ty:=ty) ht hlen hlt hb hroom hfo hf';refine⟨_,_,hrun,?_⟩;have e1:=ho.length;have e2:=hn0.length;have hcs:(ck.toArray++nv'.toArray++Builtin.zeroCells z.cells (cap-(len+n))).size=(oldl++new).length+(cap-(len+n))*i.size:=by
       rw[Array.size_append,Us,ht.hs];simp;omega
      have hvl:VL ρ0 { w with drawn:=w.drawn+1 } (oldl++new) ((ck.toArray++nv'.toArray++Builtin.zeroCells z.cells (cap-(len+n))).toList.take (oldl++new).length):=by
       have h9:=ho.append hn0;have e9:=h9.length;rw[show (ck.toArray++nv'.toArray++Builtin.zeroCells z.cells (cap-(len+n))).toList=(ck++nv')++(Builtin.zeroCells z.cells (cap-(len+n))).toList from by simp];refine VL.Uu ?_;rw[e9,ip];exact h9
      obtain⟨m1,x1⟩:=Jh m0 (l:=oldl++new) (cs:=ck.toArray++nv'.toArray++Builtin.zeroCells z.cells (cap-(len+n))) elem hvl ac bS;rw[←hl0];refine⟨_,Cm hcap be ?_,m1,x0.trans x1⟩;rw[hcs,fT,hol,hnl,←iz,←iz];have:len+n+(cap-(len+n))=cap:=by omega
      rw[this];exact b8 _
     have md:=m.drew (w.drawn+1);have xd:=Ext.drew h ρ w (w.drawn+1);split at ha
     . -- nil
       cases hx;split at ha
       . simp_all
       . rename_i h0;split at ha
         . rename_i hroom;cases ha;exact new_case none 0 0 [] [] h ρ rfl ac bS be rfl md xd VL.nil hnv' rfl [] be
         grind
     . -- by its content
       rename_i l len cap;obtain⟨base,len',capC,rfl,hlc,hsp,hnil⟩:=lG hx trivial;obtain⟨rfl,hcap⟩:=sV hx;split at ha
       . simp_all
       . rename_i h0;split at ha
         . rename_i c;split at ha
           . rename_i hc;cases ha;obtain⟨h1,hroom,hll⟩:=hc;have hcc:=hcap c rfl;obtain⟨_,ho⟩:=nk md (hx.mono xd) (l:=l) (n:=len') (by rfl) hll;obtain⟨ck,ho1,ho2⟩:=ho len' (b8 _)<;>grind
           grind
         grind
     . -- into a block of the call's own
       rename_i b off len e cap;obtain⟨base,len',capC,rfl,hlc,hsp,hnil⟩:=lG hx trivial;obtain⟨rfl,hcap⟩:=sS hx;split at ha
       . simp_all
       . rename_i h0;split at ha <;> try (cases ha;done)
         rename_i hc;obtain⟨he,hroom⟩:=hc;subst he;split at ha <;> try (cases ha;done)
         rename_i l el hat;obtain⟨hb0,hbr⟩:=mu m hat;have hρl:ρ b≠.dead:=fun hd=>by rcases hbr.live with ⟨_,_,hl'⟩|hl'|hl' <;> (rw[hd]at hl';cases hl')
         split at ha
         . -- the capacity is known
           rename_i c;have hcc:=hcap c rfl;split at ha
           . rename_i hle;split at ha
             . rename_i hin;cases ha;cases hx with
               | @sl _ cb d _ _ _ _ _ hρ _ _ hs=>
                obtain⟨cs,e',fr,h5,h6⟩:=hs;have hoff:off+len'*i.size<=l.length:=by
                 have:len'*i.size<=(len'+n)*i.size:=bS;omega
                obtain⟨w',hst,m1,x1⟩:=sY (off:=off+len'*i.size) m hat hρ ml hoff (fun cs0 e0 fr0 hq=>by
                 rw[h5]at hq;cases hq;rw[hnl];have:(len'+n)*i.size<=capC*i.size:=dO _ ac<;>grind) hone
                refine⟨_,w',Cr ht hlen hf ac (by
                 grind[Addr.iI]),ρ,?_,m1,x1⟩
                obtain⟨cs',fr',h7,h8⟩:=x1.shape _ _ _ _ h5;exact .sl hρ ac hcap ⟨cs',e',fr',h7,ac⟩
               | fB _ _ hρ _ _=>grind
               | gB a hρ=>omega
             grind
           . rename_i hgt;split at ha
             . rename_i old' hcut;cases ha;have hcut':=hcut;unfold cut at hcut';simp only at hcut';split at hcut'
               . rename_i hcl;cases hcut';obtain⟨_,ho⟩:=nk md (hx.mono xd) (l:=i5 (len'*i.size) (it off l)) (n:=len') (by simp[dV,hat,hcut]) hcl;obtain⟨ck,ho1,ho2⟩:=ho len' (b8 _)<;>grind
               grind
             grind
         . -- the capacity is not known
           split at ha
           . rename_i hend;cases ha;obtain⟨hend,rfl⟩:=hend;have hcl:(i5 (len'*i.size) (it off l)).length=len'*i.size:=by simp;omega
             have hdrop:i5 (len'*i.size) (it off l)=it off l:=List.take_of_length_le bS;by_cases hfit:len'+n<=capC
             . -- there is room
               cases hx with
               | @sl _ cb d _ _ _ _ _ hρ _ _ hs=>
                obtain⟨cs,e',fr,h5,h6⟩:=hs;have hroomc:off+d+(len'+n)*i.size<=cs.size:=by
                 have:(len'+n)*i.size<=capC*i.size:=dO _ hfit;omega
                have hbr':BR P gl ((ρ.dT b .dead).dT h.length (.live cb (off+d))) w h.length (.cells (l.drop off) el):=by
                 rcases hbr with ⟨c',d',cs',fr',g1,g2,g3,g4,g5⟩|⟨g1,g2⟩
                 . rw[hρ]at g1;cases g1;rw[h5]at g2;cases g2;refine .inl ⟨cb,off+d,cs,fr,az.gC _ _ _,h5,⟨bS,fun he=>by grind⟩,g4,fun j a v' ha hv=>?_⟩;refine(g5 (off+j) a v' bS bS).mono (Ext.move m hb0 hρ (some (.cells (l.drop off) el)) (off+d))
                 . grind
                have m1:=Mem.move m hb0 hρ (some (.cells (l.drop off) el)) (off+d) bS;have x1:=Ext.move m hb0 hρ (some (.cells (l.drop off) el)) (off+d);have hat':(h.set b none++[some (.cells (l.drop off) el)]:aa).at h.length=some (.cells (l.drop off) el):=by
                 unfold aa.at;rw[List.getElem?_append_right be];simp
                have hρ':((ρ.dT b .dead).dT h.length (.live cb (off+d))) h.length = .live cb (off+d):=be;obtain⟨w',hst,m2,x2⟩:=sY (off:=len'*i.size) m1 hat' hρ' (ml.mono x1) bS bS hone;have hh:(h.set b none++[some (.cells (l.drop off) el)]:aa).put h.length (some (.cells (overwrite (l.drop off) (len'*i.size) new) el))=h.put b none++[some (.cells (l.drop off++new) el)]:=by
                 have:overwrite (l.drop off) (len'*i.size) new=l.drop off++new:=by
                  unfold overwrite;have e2:(l.drop off).drop (len'*i.size+new.length)=[]:=(by simp_all);rw[hdrop,e2,j2]
                 rw[this];exact Uv be _ _
                rw[hh]at m2 x2;refine⟨_,w',Cr ht hlen hf hfit (by
                 grind[Addr.iI]),_,?_,m2,x1.trans x2⟩
                obtain⟨cs',fr',h7,h8⟩:=(x1.trans x2).shape _ _ _ _ h5;have:=V.sl (w:=w') (o:=0) (len:=len'+n) (esz:=i.size) (capC:=capC) (cap:=none) hρ' hfit be ⟨cs',e',fr',h7,ac⟩;grind
               | gA hρ=>omega
               | fB _ _ hρ _ _=>grind
               | fX hρ=>omega
             . have hsc':dV h (.sl b off len' i.size none)=some (i5 (len'*i.size) (it off l),len'):=by
                simp[dV,hat,cut];omega
               obtain⟨_,ho⟩:=nk md (hx.mono xd) hsc' hcl;obtain⟨ck,ho1,ho2⟩:=ho len' (b8 _);rw[List.take_take,Nat.min_self,hdrop]at ho2;have m1:=md.forget hb0;have x1:=xd.trans (Ext.forget (w:={ w with drawn:=w.drawn+1 }) hb0 (fun c d hl=>m.bound b c d hl));exact new_case base len' capC _ ck (h.set b none) _ rfl ac hroom bS ho1 m1 x1 (ho2.mono (Ext.forget (w:={ w with drawn:=w.drawn+1 }) hb0 (fun c d hl=>m.bound b c d hl))) (hnv'.mono (Ext.forget (w:={ w with drawn:=w.drawn+1 }) hb0 (fun c d hl=>m.bound b c d hl))) be [b] rfl
           grind
     grind
   grind
end Go.Ab
namespace Go.Ab
variable {P:Program} {gl:Nat->Option AV} {ρ:az} {w:World} {h:aa} {C:Cx} {s:St} {a:Act}
def cA (C:Cx)(e:Operand->Value)(o:Oper)(ρ:az)(h:aa)(w:World)(r:HR):Prop:=
 ∃v' w',((execOp e o).run C.P w = .ok (.value v') w'\/((execOp e o).run C.P w = .ok .skip w'/\v'=undef))/\fg C.P C.gl ρ h w r v' w'
theorem cA.val {o:Oper}{r:HR}{v':Value}{w':World}(h1:(execOp a.eval o).run C.P w = .ok (.value v') w')(h2:fg C.P C.gl ρ h w r v' w'):cA C a.eval o ρ h w r:=⟨v',w',.inl h1,h2⟩
theorem cA.skip {o:Oper}{r:HR}{w':World}(h1:(execOp a.eval o).run C.P w = .ok .skip w')(h2:fg C.P C.gl ρ h w r undef w'):cA C a.eval o ρ h w r:=⟨undef,w',.inr ⟨h1,rfl⟩,h2⟩
theorem iT (m:Mem P gl ρ h w){x:AV}{v':Value}(hv:V ρ w x v'):fg P gl ρ h w ⟨x,h,[]⟩ v' w:=⟨ρ,hv,m,Ext.refl _ _ _⟩
theorem wG (m:Mem P gl ρ h w){l:List AV}{cs:Array Value}(e:TypeId)(hl:VL ρ w l cs.toList){x:AV}{v':Value}(hv:V (ρ.dT h.length (.live w.heap.size 0)) { w with heap:=w.heap.push (.cells cs e) } x v') :
 fg P gl ρ h w ⟨x,h++[some (.cells l e)],[]⟩ v' { w with heap:=w.heap.push (.cells cs e) }:=
 let ⟨m1,x1⟩:=Uk m e hl
 ⟨_,hv,m1,x1⟩
theorem Cs {z:List AV}{zv:Array Value}(hz:VL ρ w z zv.toList):∀n,VL ρ w (fl z n) ((d7 (n*zv.size)).map (zv[· % zv.size]!)).toList:=by
 intro n;have key:∀n,((d7 (n*zv.size)).map (zv[· % zv.size]!)).toList=(List.replicate n zv.toList).flatten:=by
  intro n;by_cases h0:zv.size=0
  . simp_all
  . induction n with
    | zero=>simp
    | succ n ih=>
     rw[List.replicate_succ',List.flatten_append,←ih];simp only[fm,Array.toList_range];rw[Nat.succ_mul,List.range_add,List.map_append];congr 1;simp only[List.map_map,i9,List.flatten_nil,j2];apply List.ext_getElem
     . simp
     . intro i h1 h2;simp at h1;simp[Nat.add_comm,Nat.mod_eq_of_lt h1,h1]
 rw[key];induction n with
 | zero=>exact .nil
 | succ n ih=>
  simp only[fl,List.replicate_succ,i9];exact hz.append ih
theorem Ct (z:List AV):∀n,(fl z n).length=n*z.length
 | 0=>by simp[fl]
 | n+1=>by simp[fl,Ct z n,Nat.succ_mul];omega
theorem nt {t e:TypeId}{n b:Nat}(h:jF P t=some (e,n,b)):∃i,P.underlying t=some (.slice e)/\P.info? e=some i/\i.size=n/\i.bytes=b:=by
 unfold jF at h;grind
theorem sZ {e:TypeId}{z:List AV}(h:(zeroOf P e).bind AV.cells=some z):∃(i:TypeInfo) (v:Value),P.info? e=some i/\i.zero=some v/\(∀(ρ:az) (w:World),VL ρ w z v.cells.toList)/\∀w:World,(zeroValue e).run P w = .ok v w:=by
 simp only[c7]at h;obtain⟨u,h1,h2⟩:=h;unfold zeroOf at h1;split at h1
 . rename_i i hi;split at h1
   . rename_i v hv;exact⟨i,v,hi,hv,fun ρ w=>qM (sP 5 v u h1) h2,fun w=>by simp[zeroValue,wA hi,hv]⟩
   grind
 grind
theorem Ux (r:Rel C ρ s a w){t elem:TypeId}{n bb len:Nat}{ps:Array (Nat×Operand)}{z:List AV}{cps:List (Nat×Nat×ay)}(he:jF C.P t=some (elem,n,bb))(hz:(zeroOf C.P elem).bind AV.cells=some z)
 (hc:lE C (fun j=>some (j*n,n)) ps.toList=some cps) (hn0:0<n) (hzn:z.length=n) (hroom:len*n<=2^24) {vs:List (Nat×Nat×AV)} (hv:s.parts cps=some vs) {l:List AV} (hf:mh (fl z len) vs=some l) (hll:l.length=len*n)
 {o:Oper} (ho:o.op = .buildSlice t len ps):cA C a.eval o ρ s.hp w ⟨.sl s.hp.length 0 len n (some len),s.hp++[some (.cells l elem)],[]⟩:=by
 obtain⟨i,hu,hi,rfl,rfl⟩:=nt he;obtain⟨i',zv,hi',hzv,hzl,hzrun⟩:=sZ hz;rw[hi]at hi';cases hi';have hzs:zv.cells.size=i.size:=by rw[←hzn,(hzl ρ w).toList]
 have hrep:=Cs (hzl ρ w) len;obtain⟨e1,e2⟩:=wE r hc hv;obtain⟨m',h1,h2⟩:=wD (place:=fun j=>some (j*i.size,i.size)) vs _ _ _ l e1 e2 hrep hf;have hms:m'.length=len*i.size:=by rw[←h2.length,hll]
 refine cA.val (v':=.slice (some ⟨w.heap.size,0,none⟩) len len) (w':={ w with heap:=w.heap.push (.cells m'.toArray elem) }) ?_ (wG r.mem elem ac (Cm (b8 _) be (by simp[hms])));obtain⟨dst,op,ty,pos,af,gd⟩:=o;simp only at ho;subst ho;have hroom':¬(16777216<len*i.size):=by omega
 have hfill:Instr.fill (fun j=>some (j*i.size,i.size)) ((d7 (len*i.size)).map (zv.cells[· % zv.cells.size]!)) (ps.map fun p=>(p.1,a.eval p.2)).toList=some m'.toArray:=by
  rw[fm];rw[hzs]at h1;rw[hzs];have e3:((d7 (len*i.size)).map (zv.cells[· % i.size]!)).toList.toArray=(d7 (len*i.size)).map (zv.cells[· % i.size]!):=d6;rw[e3]at h1;exact h1
 have hr0:(d7 0:Array Nat) = #[]:=rfl;rw[fm]at hfill;by_cases hl0:len*i.size=0
 . have hfill0:Instr.fill (fun j=>some (j*i.size,i.size)) #[] (List.map (fun p=>(p.1,a.eval p.2)) ps.toList)=some m'.toArray:=by
    rw[hl0,hr0]at hfill;simpa using hfill
   simp only[execOp,Instr.buildSlice,b9,bZ hu,b6,iH hi,hl0,hr0];simp[hfill0,newRow]
 . simp only[execOp,Instr.buildSlice,b9,bZ hu,b6,iH hi];have hl00:¬(len=0\/i.size=0):=by rwa [←Nat.mul_eq_zero]
   simp[hroom',hzrun,hfill,newRow]<;>grind
theorem Uy (r:Rel C ρ s a w){t elem:TypeId}{n bb:Nat}{lo co:Operand}{z:List AV}(he:jF C.P t=some (elem,n,bb))(hz:(zeroOf C.P elem).bind AV.cells=some z)(hzn:z.length=n)(hn0:0<n)
 {k k':IntKind} {x y:Int} (hl:a.eval lo = .int k x) (hc:a.eval co = .int k' y) (h0:0<=x) (h1:x<=y) (h2:y.toNat*bb<=cz) (h3:y<=2^46) {o:Oper} (ho:o.op = .makeSlice t lo co) :
 cA C a.eval o ρ s.hp w ⟨.sl s.hp.length 0 x.toNat n (some y.toNat),s.hp++[some (.cells (fl z y.toNat) elem)],[]⟩:=by
 obtain⟨i,hu,hi,rfl,rfl⟩:=nt he;obtain⟨i',zv,hi',hzv,hzl,hzrun⟩:=sZ hz;rw[hi]at hi';cases hi';have hzs:zv.cells.size=i.size:=by rw[←hzn,(hzl ρ w).toList]
 have hrep:=Cs (hzl ρ w) y.toNat;have hlen:=Ct z y.toNat;refine cA.val (v':=.slice (some ⟨w.heap.size,0,none⟩) x.toNat y.toNat) (w':={ w with heap:=w.heap.push (.cells ((d7 (y.toNat*zv.cells.size)).map (zv.cells[· % zv.cells.size]!)) elem) }) ?_
  (wG r.mem elem hrep (by grind[Cm]))
 obtain⟨dst,op,ty,pos,af,gd⟩:=o;simp only at ho;subst ho;have hroom:cz=70368744177664:=by decide
 have w1:IntKind.i64.wrap x=x:=IntWalk.i64_in x ac;have w2:IntKind.i64.wrap y=y:=IntWalk.i64_in y ac;have hy:(y.toNat:Int)=y:=by omega
 have hb:¬((281474976710656:Int)<(i.bytes:Int)*y):=by
  have:((y.toNat*i.bytes:Nat):Int)<=70368744177664:=by omega
  rw[Int.natCast_mul,hy,Int.mul_comm]at this;omega
 have hcond:¬(((y<0\/(281474976710656:Int)<(i.bytes:Int)*y)\/x<0)\/y<x):=by omega
 have hr0:(d7 0:Array Nat) = #[]:=rfl;simp[execOp,Instr.makeSlice,bZ hu,hl,hc,asInt,qL,wA hi,iH hi,w1,w2,hcond,newRow,hzrun,hzs]<;>grind
theorem Uz (r:Rel C ρ s a w){e:TypeId}{xo:Operand}{x:AV}{l:List AV}(hx:V ρ w x (a.eval xo))(hl:x.cells=some l){o:Oper}(ho:o.op = .box e xo) :
 cA C a.eval o ρ s.hp w ⟨.ptr s.hp.length 0,s.hp++[some (.cells l e)],[]⟩:=by
 refine cA.val (v':=.pointer (some ⟨w.heap.size,0,none⟩)) (w':={ w with heap:=w.heap.push (.cells (a.eval xo).cells e) }) ?_ (wG r.mem e (qM hx hl) Cn);obtain⟨dst,op,ty,pos,af,gd⟩:=o;simp only at ho;subst ho;rfl
theorem UA (r:Rel C ρ s a w){e:TypeId}{z:List AV}(hz:(zeroOf C.P e).bind AV.cells=some z){o:Oper}(ho:o.op = .alloc e) :
 cA C a.eval o ρ s.hp w ⟨.ptr s.hp.length 0,s.hp++[some (.cells z e)],[]⟩:=by
 obtain⟨i,zv,hi,hzv,hzl,hzrun⟩:=sZ hz;refine cA.val (v':=.pointer (some ⟨w.heap.size,0,none⟩)) (w':={ w with heap:=w.heap.push (.cells zv.cells e) }) ?_ (wG r.mem e (hzl ρ w) Cn);obtain⟨dst,op,ty,pos,af,gd⟩:=o;simp only at ho;subst ho;simp[execOp,Instr.alloc,hzrun,newVar,newRow]
theorem UB (r:Rel C ρ s a w){t:TypeId}{n:Nat}{ag:Bool}{xo:Operand}{x:AV}(hs:shapeOf C.P t=some (n,ag))(hx:V ρ w x (a.eval xo)){l:List AV}(hl:fP s.hp x=some l){v:AV}(hv:partOf l 0 n ag=some v)
 {o:Oper} (ho:o.op = .load t xo):cA C a.eval o ρ s.hp w ⟨v,s.hp,[]⟩:=by
 obtain⟨c,off,g,he,hg⟩:=readable r.mem hx hl;obtain⟨v',h1,h2⟩:=Ji hs hg hv;refine cA.val (v':=v') (w':=w) ?_ (iT r.mem h2);obtain⟨dst,op,ty,pos,af,gd⟩:=o;simp only at ho;subst ho;simp[execOp,Instr.loadAt,he,Instr.sureAddr,h1]
theorem UC (r:Rel C ρ s a w){t:TypeId}{n:Nat}{ag:Bool}{xo yo:Operand}{b off:Nat}{y:AV}{new l:List AV}{el:TypeId}(hs:shapeOf C.P t=some (n,ag))(hx:V ρ w (.ptr b off) (a.eval xo))(hy:V ρ w y (a.eval yo))
 (hn:y.cells=some new) (hb:s.hp.at b=some (.cells l el)) (hnn:new.length=n) (hin:off+n<=l.length) (hone:new.all cI=true) {o:Oper} (ho:o.op = .store t xo yo) :
 cA C a.eval o ρ s.hp w ⟨bD,s.hp.put b (some (.cells (overwrite l off new) el)),[b]⟩:=by
 obtain⟨i,d0,hi,hd0,rfl,rfl⟩:=sQ hs;obtain⟨h0,hbr⟩:=mu r.mem hb;have hyv:=qM hy hn;generalize hxv:a.eval xo=xv at hx;cases hx with
 | ptr _ hρ=>
  rename_i c d;obtain⟨w',h1,m1,x1⟩:=sY (off:=off) r.mem hb hρ hyv ac (fun cs e fr hq=>by
   rcases hbr with ⟨c',d',cs',fr',g1,g2,g3,_⟩|⟨g1,_⟩
   . rw[hρ]at g1;cases g1;rw[hq]at g2;cases g2;have:=g3.1;omega
   grind) hone
  refine cA.skip (w':=w') ?_ ⟨ρ,V.undef,m1,x1⟩;obtain⟨dst,op,ty,pos,af,gd⟩:=o;simp only at ho;subst ho;have hsz:(a.eval yo).cells.size=i.size:=by rw[←hyv.toList,hnn]
  simp[execOp,Instr.storeAt,hxv,Instr.sureAddr,storeVar,iH hi,hsz,h1]
 | eE _ _ _ hρ=>rcases hbr.live with ⟨_,_,hl'⟩|hl'|hl' <;> (rw[hρ]at hl';cases hl')
end Go.Ab
namespace Go.Ab
variable {t:TypeId}
variable {P:Program} {gl:Nat->Option AV} {ρ:az} {w:World} {h:aa} {C:Cx} {s:St} {a:Act}
theorem bytes_beq (x y:List UInt8):((dN x.toArray) == (dN y.toArray))=(x == y):=by
 have e:∀x y:ByteArray,(x == y)=(x.data == y.data):=fun _ _=>rfl<;>grind
theorem nu {c:Nat}{o:Obj}(h:w.heap[c]? = some o)(ho:∀cs e fr,o≠.cells cs e fr):(getObj c).run P w = .ok o w:=by
 cases o <;> first|exact absurd rfl (ho _ _ _)|simp[getObj,Sem.run,h]
theorem pc {c:Nat}{o o':Obj}(h:w.heap[c]? = some o)(ho:∀cs e fr,o≠.cells cs e fr):(setObj c o').run P w = .ok () (w.dD c o'):=by
 cases o <;> first|exact absurd rfl (ho _ _ _)|simp[setObj,Sem.run,h,World.dD]
theorem Cu (m:Mem P gl ρ h w){b:Nat}{es:List (AV×AV)}(hb:h.at b=some (.map es)):h[b]? = some (some (.map es))/\∃c ms clk,ρ b = .live c 0/\w.heap[c]? = some (.map ms clk)/\es.length=ms.size /\
      ∀(i:Nat) kx vx m,es[i]? = some (kx,vx)->ms[i]? = some m->V ρ w kx m.key/\V ρ w vx m.val:=
 ⟨qP hb,m.dc b _ (qP hb)⟩
def Cv:jd->TypeDesc->Prop
 | .int,d=>∃k,d = .int k
 | .str,d=>d = .string
theorem Jn {k:jd}(hk:keyOf P t=some k):∃d,P.underlying t=some d/\Cv k d:=by
 unfold keyOf at hk;split at hk
 . rename_i kk hu;cases hk;exact⟨_,hu,_,rfl⟩
 . rename_i hu;cases hk;exact⟨_,hu,rfl⟩
 grind
theorem wH {k:jd}(hk:keyOf P t=some k)(e:Bool)(v:Value):(Instr.checkKey e 10000 t v).run P w = .ok () w:=by
 obtain⟨d,hu,hd⟩:=Jn hk;unfold Instr.checkKey;rw[b9,bZ hu,b6];cases k
 . obtain⟨kk,rfl⟩:=hd;simp
 . cases hd;simp
theorem UD {kt:jd}{d:TypeDesc}(hd:Cv kt d){k kx:AV}(hk:kt.ok k=true){k' kx':Value}(h1:V ρ w k k')(h2:V ρ w kx kx'){r:Bool}(he:sy k kx=some r) :
 Instr.sameNow d k' kx'=some r/\(r=true->kx'=k'/\Instr.sameBits 10000 kx' k'=true):=by
 cases kt
 . obtain⟨kk,rfl⟩:=hd;cases k <;> simp only[jd.ok,ce]at hk;cases kx <;> simp only[sy,reduceCtorEq,Option.ite_none_right_eq_some,c8.injEq]at he;obtain⟨rfl,rfl⟩:=he;cases h1;cases h2;refine⟨by simp[Instr.sameNow],fun hr=>?_⟩;simp only[beq_iff_eq]at hr;subst hr;exact⟨rfl,by simp[Instr.sameBits]⟩
 . cases hd;cases k <;> simp only[jd.ok,ce]at hk;cases kx <;> simp only[sy,reduceCtorEq,c8.injEq]at he;subst he;cases h1;cases h2;refine⟨by simp only[Instr.sameNow,bytes_beq],fun hr=>?_⟩;simp only[beq_iff_eq]at hr;subst hr;exact⟨rfl,by simp only[Instr.sameBits,bytes_beq,beq_self_eq_true]⟩
def Cw (ρ:az)(w:World)(ms:List MapEntry)(k':Value)(i:Nat):Option (Nat×AV)->Option (Nat×Value)->Prop
 | none,none=>True
 | some (j,v),some (j',v')=>j=j'/\i<=j/\V ρ w v v'/\∃e,ms[j-i]? = some e/\e.key=k'/\Instr.sameBits 10000 e.key k'=true
 | _,_=>False
theorem Jo {kt:jd}{d:TypeDesc}(hd:Cv kt d){k:AV}(hk:kt.ok k=true){k':Value}(h1:V ρ w k k') :
 ∀(es:List (AV×AV)) (ms:List MapEntry) (i:Nat) (r:Option (Nat×AV)),es.length=ms.length ->
  (∀(i:Nat) kx vx m,es[i]? = some (kx,vx)->ms[i]? = some m->V ρ w kx m.key/\V ρ w vx m.val)->mi k es i=some r ->
  ∃r',Instr.findNow d k' ms i=some r'/\Cw ρ w ms k' i r r'
 | [],ms,i,r,hl,_,hf=>by
  cases ms with
  | nil=>simp only[mi,c8.injEq]at hf;subst hf;exact⟨none,rfl,trivial⟩
  | cons _ _=>simp at hl
 | (kx,vx)::es,ms,i,r,hl,hv,hf=>by
  cases ms with
  | nil=>simp at hl
  | cons m ms=>
   obtain⟨e1,e2⟩:=hv 0 kx vx m rfl rfl;simp only[mi]at hf;cases he:sy k kx with
   | none=>grind
   | some b=>
    obtain⟨g1,g2⟩:=UD hd hk h1 e1 he;cases b with
    | true=>
     simp only[he,c8.injEq]at hf;subst hf;exact⟨some (i,m.val),by simp[Instr.findNow,g1],rfl,b8 _,e2,m,be,g2 rfl⟩
    | false=>
     simp only[he]at hf;obtain⟨r',h3,h4⟩:=Jo hd hk h1 es ms (i+1) r bS (fun i kx vx m hx hm=>hv (i+1) kx vx m bS bS) hf;refine⟨r',by simp[Instr.findNow,g1,h3],?_⟩;cases r with
     | none=>cases r' with
       | none=>trivial
       | some _=>exact h4
     | some q=>
      cases r' with
      | none=>exact h4
      | some q'=>
       obtain⟨a1,a2,a3,e,a4,a5⟩:=h4;refine⟨a1,ac,a3,e,?_,a5⟩<;>grind
theorem Cy {kt:jd}(hk:keyOf P t=some kt){k:AV}(bT:kt.ok k=true){k':Value}(h1:V ρ w k k'){es:List (AV×AV)}{ms:List MapEntry}(hl:es.length=ms.length)
 (hv:∀(i:Nat) kx vx m,es[i]? = some (kx,vx)->ms[i]? = some m->V ρ w kx m.key/\V ρ w vx m.val) {r:Option (Nat×AV)} (hf:mi k es 0=some r) :
 ∃r',(Instr.findKey t k' ms).run P w = .ok r' w/\Cw ρ w ms k' 0 r r':=by
 obtain⟨d,hu,hd⟩:=Jn hk;obtain⟨r',h2,h3⟩:=Jo hd bT h1 es ms 0 r hl hv hf;refine⟨r',?_,h3⟩;unfold Instr.findKey;simp[bZ hu,h2]
def nw (z:AV)(q:Option (Nat×AV)):AV:=match q with|some (_,v)=>v|none=>z
theorem UE (r:Rel C ρ s a w){t kt' et:TypeId}{kt:jd}{z:AV}{xo io:Operand}{ok:Bool}(hu:C.P.underlying t=some (.map kt' et))(hk:keyOf C.P kt'=some kt)(hz:zeroOf C.P et=some z)
 {m k:AV} (hm:V ρ w m (a.eval xo)) (hkv:V ρ w k (a.eval io)) (bT:kt.ok k=true) {es:List (AV×AV)} (hes:m = .eO/\es=[]\/∃b,m = .map b/\s.hp.at b=some (.map es))
 {q:Option (Nat×AV)} (hf:mi k es 0=some q) {o:Oper} (ho:o.op = .lookup t xo io ok) :
 cA C a.eval o ρ s.hp w ⟨if ok then .au [nw z q,.bool q.isSome] else nw z q,s.hp,[]⟩:=by
 obtain⟨dst,op,ty,pos,af,gd⟩:=o;simp only at ho;subst ho;obtain⟨zv,hz1,hz2⟩:=wF (w:=w) (ρ:=ρ) hz;have hrun:∃v',(Instr.lookup t (a.eval xo) (a.eval io) ok).run C.P w = .ok v' w/\V ρ w (if ok then .au [nw z q,.bool q.isSome] else nw z q) v':=by
  have tail:∀(q':Option (Nat×Value)) (ms:List MapEntry),Cw ρ w ms (a.eval io) 0 q q'->∃v',((match q' with
   | some (_,v)=>do let p ←(pure (v,true):Sem (Value×Bool));pure (if ok then .tuple #[p.1,.bool p.2] else p.1)
   | none=>do let z ←zeroValue et;let p ←(pure (z,false):Sem (Value×Bool));pure (if ok then .tuple #[p.1,.bool p.2] else p.1):Sem Value)).run C.P w = .ok (if ok then .tuple #[v',.bool q.isSome] else v') w/\V ρ w (nw z q) v':=by
   intro q' ms h2;cases q with
   | none=>
    cases q' with
    | some _=>exact h2.elim
    | none=>exact⟨zv,by simp[hz1],hz2⟩
   | some p=>
    cases q' with
    | none=>exact h2.elim
    | some p'=>exact⟨p'.2,be,h2.2.2.1⟩
  have fin:∀(v':Value),V ρ w (nw z q) v'->V ρ w (if ok then .au [nw z q,.bool q.isSome] else nw z q) (if ok then .tuple #[v',.bool q.isSome] else v'):=by
   intro v' hv;cases ok
   . exact hv
   . exact V.jg (VL.cons hv (VL.cons (.bool _) .nil))
  unfold Instr.lookup;rcases hes with ⟨rfl,rfl⟩|⟨b,rfl,hb⟩
  . generalize hxv:a.eval xo=xv at hm;cases hm;obtain⟨q',h1,h2⟩:=Cy (P:=C.P) (es:=[]) (ms:=[]) hk bT hkv rfl be hf;obtain⟨v',t1,t2⟩:=tail q' _ h2;refine⟨_,?_,fin v' t2⟩;simp only[b9,bZ hu,b6,dY,wH hk,h1]<;>grind
  . obtain⟨_,c,ms,clk,g1,g2,g3,g4⟩:=Cu r.mem hb;generalize hxv:a.eval xo=xv at hm;cases hm with
    | map hρ=>
     rw[hρ]at g1;cases g1;obtain⟨q',h1,h2⟩:=Cy (P:=C.P) (ms:=ms.toList) hk bT hkv ac bS hf;obtain⟨v',t1,t2⟩:=tail q' _ h2;refine⟨_,?_,fin v' t2⟩;simp only[b9,bZ hu,b6,dY,wH hk,h1,nu g2 be]<;>grind
    | iR _ hρ=>grind
 obtain⟨v',h3,h4⟩:=hrun;refine cA.val (v':=v') (w':=w) ?_ (iT r.mem h4);simp[execOp,h3]
def ny (es:List (AV×AV))(k v:AV)(q:Option (Nat×AV)):List (AV×AV):=match q with|some (j,_)=>es.set j (k,v)|none=>es++[(k,v)]
theorem wI (r:Rel C ρ s a w){t kt' et:TypeId}{kt:jd}{mo io xo:Operand}(hu:C.P.underlying t=some (.map kt' et))(hk:keyOf C.P kt'=some kt)
 {k v:AV} {b:Nat} (hm:V ρ w (.map b) (a.eval mo)) (hkv:V ρ w k (a.eval io)) (hv:V ρ w v (a.eval xo)) (bT:kt.ok k=true) {es:List (AV×AV)} (hb:s.hp.at b=some (.map es))
 {q:Option (Nat×AV)} (hf:mi k es 0=some q) {o:Oper} (ho:o.op = .mapUpdate t mo io xo\/o.op = .insert t mo io xo) :
 cA C a.eval o ρ s.hp w ⟨bD,s.hp.put b (some (.map (ny es k v q))),[b]⟩:=by
 obtain⟨h0,c,ms,clk,g1,g2,g3,g4⟩:=Cu r.mem hb;have hrun:∃ms' clk',(Instr.mapUpdate t (a.eval mo) (a.eval io) (a.eval xo)).run C.P w = .ok () (w.dD c (.map ms' clk'))/\(ny es k v q).length=ms'.size /\
  ∀(i:Nat) kx vx m,(ny es k v q)[i]? = some (kx,vx)->ms'[i]? = some m->V ρ w kx m.key/\V ρ w vx m.val:=by
  unfold Instr.mapUpdate;generalize hxv:a.eval mo=xv at hm;cases hm with
  | map hρ=>
   rw[hρ]at g1;cases g1;obtain⟨q',h1,h2⟩:=Cy (P:=C.P) (ms:=ms.toList) hk bT hkv ac bS hf;cases q with
   | none=>
    cases q' with
    | some _=>exact h2.elim
    | none=>
     refine⟨ms.push { key:=a.eval io,val:=a.eval xo,born:=clk },clk+1,?_,by simp[ny,g3],?_⟩
     . simp only[b9,bZ hu,b6,wH hk,h1,nu g2 be];grind[pc]
     . intro i kx vx m hx hm;simp only[ny]at hx<;>grind
   | some p=>
    cases q' with
    | none=>exact h2.elim
    | some p'=>
     obtain⟨j,pv⟩:=p;obtain⟨j',pv'⟩:=p';obtain⟨e1,_,_,e,e3,e4,e5⟩:=h2;have e1:j=j':=e1;subst e1;have e3:ms[j]? = some e:=by simpa using e3
     have hj:j<ms.size:=(c9.1 e3).1;refine⟨ms.modify j fun e=>{ e with key:=a.eval io,val:=a.eval xo },clk,?_,by simp[ny,g3],?_⟩
     . simp only[b9,bZ hu,b6,wH hk,h1,nu g2 be];simp only[e3,f9,Option.getD_some,Instr.keyThatStays,e5,if_true,dY,b6];grind[pc]
     . intro i kx vx m hx hm;rw[Array.getElem?_modify]at hm;simp only[ny]at hx<;>grind
  | iR _ hρ=>grind
 obtain⟨ms',clk',h1,h2,h3⟩:=hrun;have hO:∀cs0 e0 fr0,w.heap[c]? = some (.cells cs0 e0 fr0)->∃cs' fr',Obj.map ms' clk' = .cells cs' e0 fr'/\cs'.size=cs0.size:=by
  intro _ _ _ hq;rw[g2]at hq;cases hq
 have x:=Ext.write r.mem h0 g1 (some (.map (ny es k v q))) (.map ms' clk') hO;refine cA.skip (w':=w.dD c (.map ms' clk')) ?_ ⟨ρ,V.undef,Mem.write r.mem h0 g1 _ _ hO ?_,x⟩
 . obtain⟨dst,op,ty,pos,af,gd⟩:=o;simp only at ho;rcases ho with rfl|rfl <;> simp[execOp,h1]
 . intro o' ho';cases ho';exact⟨c,ms',clk',g1,pa bS,h2,fun i kx vx m hx hm=>let ⟨a1,a2⟩:=h3 i kx vx m hx hm;⟨a1.mono x,a2.mono x⟩⟩
theorem UF (r:Rel C ρ s a w){t:TypeId}{o:Oper}(ho:o.op = .makeMap t none):cA C a.eval o ρ s.hp w ⟨.map s.hp.length,s.hp++[some (.map [])],[]⟩:=by
 have x:=Ext.alloc r.mem (some (.map [])) (.map #[] 0) (.live w.heap.size 0) be;refine cA.val (v':=.map (some w.heap.size)) (w':={ w with heap:=w.heap.push (.map #[] 0) }) ?_ ⟨_,.map be,Mem.alloc r.mem _ _ _ be ?_,x⟩
 . obtain⟨dst,op,ty,pos,af,gd⟩:=o;simp only at ho;subst ho;rfl
 . intro o' ho';cases ho';exact⟨w.heap.size,#[],0,az.gC _ _ _,be,rfl,be⟩
theorem UG (r:Rel C ρ s a w){t:TypeId}{xo:Operand}(hu:C.P.underlying t=some .string){u:List UInt8}(hx:V ρ w (.str u) (a.eval xo)){o:Oper}(ho:o.op = .range t xo) :
 cA C a.eval o ρ s.hp w ⟨.ptr s.hp.length 0,s.hp++[some (.iter u 0)],[]⟩:=by
 have x:=Ext.alloc r.mem (some (.iter u 0)) (.stringIter ⟨u.toArray⟩ 0) (.live w.heap.size 0) be;refine cA.val (v':=.pointer (some ⟨w.heap.size,0,none⟩)) (w':={ w with heap:=w.heap.push (.stringIter ⟨u.toArray⟩ 0) }) ?_ ⟨_,Cn,Mem.alloc r.mem _ _ _ be ?_,x⟩
 . obtain⟨dst,op,ty,pos,af,gd⟩:=o;simp only at ho;subst ho;simp[execOp,Instr.range,bZ hu,hx.kD]
 . intro o' ho';cases ho';exact⟨w.heap.size,az.gC _ _ _,be⟩
theorem UH (r:Rel C ρ s a w){xo:Operand}{b pos:Nat}{t:List UInt8}(hx:V ρ w (.ptr b 0) (a.eval xo))(hb:s.hp.at b=some (.iter t pos)){o:Oper}(ho:o.op = .next xo true) :
 cA C a.eval o ρ s.hp w (if pos<t.length then ⟨.au [.bool true,.int .i64 pos,.int .i32 (Utf8.decode ⟨t.toArray⟩ pos).1],s.hp.put b (some (.iter t (pos+(Utf8.decode ⟨t.toArray⟩ pos).2))),[b]⟩ else ⟨.au [.bool false],s.hp,[]⟩):=by
 have h0:=qP hb;obtain⟨c,g1,g2⟩:=r.mem.dc b _ h0;obtain⟨dst,op,ty,ps,af,gd⟩:=o;simp only at ho;subst ho;generalize hxv:a.eval xo=xv at hx;cases hx with
 | ptr _ hρ=>
  rw[hρ]at g1;cases g1;have hsz:(dN t.toArray).size=t.length:=by simp[f7]
  by_cases hp:pos<t.length
  . rw[if_pos hp];have hO:∀cs0 e0 fr0,w.heap[c]? = some (.cells cs0 e0 fr0)->∃cs' fr',Obj.stringIter ⟨t.toArray⟩ (pos+(Utf8.decode ⟨t.toArray⟩ pos).2) = .cells cs' e0 fr'/\cs'.size=cs0.size:=by
     intro _ _ _ hq;rw[g2]at hq;cases hq
    have x:=Ext.write r.mem h0 hρ (some (.iter t (pos+(Utf8.decode ⟨t.toArray⟩ pos).2))) (.stringIter ⟨t.toArray⟩ (pos+(Utf8.decode ⟨t.toArray⟩ pos).2)) hO;refine cA.val (v':=.tuple #[.bool true,goInt pos,.int .i32 (Utf8.decode ⟨t.toArray⟩ pos).1]) (w':=w.dD c (.stringIter ⟨t.toArray⟩ (pos+(Utf8.decode ⟨t.toArray⟩ pos).2))) ?_
     ⟨ρ,V.jg (.cons (.bool _) (.cons (.int _ _) (.cons (.int _ _) .nil))),Mem.write r.mem h0 hρ _ _ hO ?_,x⟩
    . simp[execOp,Instr.next,hxv,nu g2,hsz,hp,pc g2]
    . intro o' ho';cases ho';exact⟨c,hρ,pa bS⟩
  . rw[if_neg hp];refine cA.val (v':=.tuple #[.bool false]) (w':=w) ?_ (iT r.mem (V.jg (.cons (.bool _) .nil)));simp[execOp,Instr.next,hxv,nu g2,hsz,hp]
 | eE _ _ _ hρ=>grind
end Go.Ab
