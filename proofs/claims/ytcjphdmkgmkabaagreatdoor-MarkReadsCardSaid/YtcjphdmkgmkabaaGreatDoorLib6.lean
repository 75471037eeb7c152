/-
  Own work: the resolved code of some functions of chapter 1.
-/
import Derived.Test.YtcjphdmkgmkabaaGreatDoorCh1Base
import Derived.Test.YtcjphdmkgmkabaaGreatDoorLib4
import Derived.Test.YtcjphdmkgmkabaaGreatDoorCh1Row
import Derived.Test.YtcjphdmkgmkabaaGreatDoorLib5
set_option maxHeartbeats 8000000
set_option maxRecDepth 20000
namespace Go.Ab.Ch1
set_option maxRecDepth 1000000
def uN:ao:=zR [⟨.p 3,.mv (.c (.bool false)),none⟩] (zR [zm 7 0,zm 8 1,zb 9 .lss 7 8,zn 10 9,zg (zm 11 0) 10 false,zg (zm 12 2) 10 false,zg (zb 13 .gtr 11 12) 10 false,zP 14 10 13,zw 3 14] (.ret))
theorem DJ:FT 95=some ⟨15,[0,1,2,6],[.var (.p 3)],uN⟩:=by kernel_rfl
end Go.Ab.Ch1

/-
  Own work: plain facts of drawn orders: an exchange after the other gives an order of the same elements; its last place and the rest.
-/
namespace Go.Ab
end Go.Ab

/-
  Own work: mark.Draw, mark.outside, stadionref01.CheckDraw: what they compute.
-/
namespace Go.Ab.Ch1
open Go.Proofs.Tryz
variable {M:au}
theorem DK (hft:M.FT=FT)(x lo hi:Int):aJ M 95 [.iV x,.iV lo,.iV hi] [] ⟨.bool (decide (x<lo) || decide (hi<x)),[],[]⟩:=by
 refine bq (by rw[hft];exact DJ) (by simp) ?_;unfold uN;repeat' first|apply Ke|apply aj|apply Kf|apply Kg|apply Ki|(apply Kv;rfl)|(apply KD;rfl)|(apply Kz;rfl;rfl)|(apply Ku;rfl;rfl)|(apply Kp;rfl;rfl)|(apply Kq;rfl;rfl)|(apply Kd;rfl;rfl)|(apply Kh;rfl;rfl)|(intro _;omega)|intro _
 all_goals exact⟨.inr rfl,rfl,_,rfl,by simp[dh, *];try omega,by simp[AV.top]⟩
end Go.Ab.Ch1

/-
  Own work: contracts of chapter 1 as a table.
-/
namespace Go.Ab
open Go.ChangeShapes Go.WideShapes Go.RowKit
variable {P:Program} {gl:Nat->Option AV}
theorem bM {FT:FuncId->Option bJ}{T:List (Nat×Spec)}:(bA P FT T).FT=FT:=rfl
theorem DL {FT:FuncId->Option bJ}{T:List (Nat×Spec)}:(bA P FT T).ext=cT T:=rfl
theorem DM {FT:FuncId->Option bJ}(hs:iR P gl FT){T:List (Nat×Spec)}(hT:cR P gl (cT T)){f:Nat}{xs:List AV}{w:World}(hr:aJ (bA P FT T) f xs [] ⟨.bool true,[],[]⟩)
 (hgl:∀g v,gl g=some v->V bare w v (.pointer (some ⟨g,0,none⟩))) {as':List Value} (hv:VL bare w xs as'):Calls P f as'.toArray w fun e w'=>e = .returned (.bool true)/\Below w.heap.size w w':=by
 obtain⟨n,hn⟩:=hr;refine(BU hs.mix hT hs.ft hn hgl hv).mono fun e w' he=>?_
 obtain⟨v',h1,⟨ρ',h2⟩,h3⟩:=he;cases h2;exact⟨h1,BV h3⟩
end Go.Ab
namespace Go.Ab.Ch1
open Go.Proofs
def DN:Spec:=pL [] (.bool true)
theorem DO:aV Tryz.prog gl 18 DN:=BZ uM rfl rfl Dw
def uO:Spec:=fun
 | [.int .i64 x,.int .i64 lo,.int .i64 hi],h=>some ⟨.bool (decide (x<lo) || decide (hi<x)),h,[]⟩
 | _,_=>none
theorem DP:aV Tryz.prog gl 95 uO:=by
 intro xs h r hq;unfold uO at hq;split at hq
 . cases hq;exact fC eG br (DK (M:=bA Tryz.prog FT []) bM _ _ _) (dj.same rfl) rfl (.inl rfl)
 . cases hq
set_option maxRecDepth 1000000
def uP:ao:=zR [zi 2 0] (.seq (zR [zm 5 0] (.cond (.l 5) (zR [zm 6 1,zw 2 6] (.ret)) (.skip))) (zR [zi 2 0] (.ret)))
theorem DQ:FT 97=some ⟨7,[0,1,4],[.var (.p 2)],uP⟩:=by kernel_rfl
def nk:ao:=zR [zr 8 .lss 5 4] (.seq (.cond (.l 8) (.skip) (.exit 0)) (.seq (.block 1 (zR [⟨.l 9,.ee none 1 (.p 3) (.p 5),none⟩,zd 10 1 9,zw 2 10] (zR [zm 11 2,zc 12 .neq 11 0] (.cond (.l 12) (zR [zm 13 2,zw 1 13] (.ret)) (.skip))))) (.region [zq 14 .add 5 1,zw 5 14])))
def uQ:ao:=zR [zi 1 0] (.seq (zR [⟨.p 3,.mv (.p 0),none⟩,⟨.p 4,.len .sl (.p 3),none⟩,zi 5 0] (.block 0 (.loop nk))) (zR [zi 1 0] (.ret)))
theorem DR:FT 96=some ⟨15,[0,2,4,5,6,7],[.var (.p 1)],uQ⟩:=by kernel_rfl
variable {inv:cI} {F:FuncId->Option bJ}
abbrev eH (T:List (Nat×Spec))(inv:cI)(F:FuncId->Option bJ):au:=⟨cT T,inv,F⟩
theorem DS {g:Nat}{sp:Spec}{T:List (Nat×Spec)}{xs:List AV}{h:ab}:cT ((g,sp)::T) g xs h=sp xs h:=by simp[cT]
def cM:List Int->Int
 | []=>0
 | e::r=>if e=0 then cM r else e
def nm:Spec:=fun
 | [.bool t,.int .i64 e],h=>some ⟨.int .i64 (if t then e else 0),h,[]⟩
 | _,_=>none
def jb:Spec:=fun
 | [v],h=>match ij h v with
   | some l=>if l.length<4611686018427387904 then some ⟨.int .i64 (cM l),h,[]⟩ else none
   | none=>none
 | _,_=>none
theorem DT {T:List (Nat×Spec)}(hft:F=FT)(t:Bool)(e:Int):aJ (eH T inv F) 97 [.bool t,.int .i64 e] [] ⟨.int .i64 (if t then e else 0),[],[]⟩:=by
 refine bq (show F 97=_ from by rw[hft];exact DQ) (by simp) ?_;unfold uP;simp only[enter];cases t;all_goals
  repeat' first|apply Ke|apply aj|apply Kf|apply Kg|apply Ki|apply Kl|apply aF|(apply Kj;rfl)|(apply Kk;rfl)|(apply Kd;rfl;rfl)|(apply Kh;rfl;rfl)
 all_goals exact⟨.inr rfl,rfl,_,rfl,rfl,rfl⟩
theorem DU {l:List Int}{i:Nat}(h:i<l.length):cM (l.drop i)=if l[i]! = 0 then cM (l.drop (i+1)) else l[i]! := by
 rw[List.drop_eq_getElem_cons h,getElem!_pos l i h,cM]
theorem uR {T:List (Nat×Spec)}(l:List Int)(cap:Option Nat)(a0:AV)(hl:l.length<4611686018427387904)(hp:ab)(df:List Nat){Q:Ex->ah->Prop}:∀(r i:Nat),i+r=l.length->∀(a1 a2:AV) (lo:List (Nat×AV)) (wr:List Nat),
 (cM (l.drop i)=0->∀a2 lo wr,Q (.exit 0) ⟨⟨[a0,a1,a2,.vs (ints l) l.length cap,.int .i64 l.length,.int .i64 l.length],lo,hp,df⟩,wr⟩) ->
 (∀a2 a5 lo wr,Q .ret ⟨⟨[a0,.int .i64 (cM (l.drop i)),a2,.vs (ints l) l.length cap,.int .i64 l.length,a5],lo,hp,df⟩,wr⟩) ->
 W (eH T inv F) (.loop nk) ⟨⟨[a0,a1,a2,.vs (ints l) l.length cap,.int .i64 l.length,.int .i64 i],lo,hp,df⟩,wr⟩ Q
 | 0,i,hi,a1,a2,lo,wr,h1,h2=>by
  obtain rfl:i=l.length:=by omega
  refine W.loop ?_;unfold nk;repeat' first|apply Ke|apply aj|apply Kf|apply Kg|apply Kx|apply bX|apply cB|(apply Kk;rfl)|(apply Kz;rfl;rfl)|(intro _;omega)|intro _
  exact h1 (by simp[cM]) _ _ _
 | r+1,i,hi,a1,a2,lo,wr,h1,h2=>by
  have e:=DU (l:=l) (i:=(i:Int).toNat) (by omega);rw[Int.toNat_natCast]at e;refine W.loop ?_;unfold nk;repeat' first|apply Ke|apply aj|apply Kf|apply Kg|apply Kn|apply Ki|apply Kl|apply aF|apply bn|apply cD|apply dr|(apply Kj;rfl)|(apply Kk;rfl)|(apply Kz;rfl;rfl)|(apply Kw;rfl;rfl)|(apply KC;rfl;rfl;omega)|(apply Lo;rfl;rfl;omega)|(apply Lp;rfl;exact fun _=>rfl;(first|omega|(simp only[List.length_set];omega)|(simp;omega));decide;rfl;case ia=>infer_instance)|(apply Kd;rfl;rfl)|(apply Kh;rfl;rfl)|(intro _;omega)|intro _
  . rename_i hne;rw[Int.toNat_natCast]at hne;rw[if_neg hne]at e;rw[e]at h2;exact h2 _ _ _ _
  . rename_i he;rw[Int.toNat_natCast]at he;rw[if_pos he]at e;rw[e]at h1 h2;exact iQ (uR l cap a0 hl hp df r (i+1) (by omega) _ _ _ _ h1 h2)
theorem DV {T:List (Nat×Spec)}(hft:F=FT)(l:List Int)(cap:Option Nat)(hl:l.length<4611686018427387904):aJ (eH T inv F) 96 [.vs (ints l) l.length cap] [] ⟨.int .i64 (cM l),[],[]⟩:=by
 refine bq (show F 96=_ from by rw[hft];exact DR) (by simp) ?_;unfold uQ;simp only[enter];repeat' first|apply Ke|apply aj|apply Kf|apply Kg|apply Kn|(apply Kh;rfl;rfl)
 refine uR l cap _ hl _ _ l.length 0 (by omega) _ _ _ _ (fun h a2 lo wr=>?_) (fun a2 a5 lo wr=>?_)
 . repeat' first|apply Ke|apply aj|apply Kf|apply Kg|apply Ki|apply cg|(apply Kh;rfl;rfl)
   exact⟨.inr rfl,rfl,_,rfl,by rw[List.drop_zero]at h;rw[h];rfl,rfl⟩
 . repeat' first|apply aF|apply cD
   exact⟨.inr rfl,rfl,_,rfl,rfl,rfl⟩
theorem uS:aV Tryz.prog gl 97 nm:=by
 intro xs h r hq;unfold nm at hq;split at hq
 . cases hq;exact fC eG br (DT (T:=[]) rfl _ _) (dj.same rfl) rfl (.inl rfl)
 . cases hq
theorem DW {f:Nat}(hw:∀(l:List Int) cap,l.length<4611686018427387904->aJ (bA Tryz.prog FT []) f [.vs (ints l) l.length cap] [] ⟨.int .i64 (cM l),[],[]⟩):aV Tryz.prog gl f jb:=by
 intro xs h r hq;unfold jb at hq;split at hq
 . split at hq
   . rename_i l hl;split at hq
     . rename_i hlen;cases hq;obtain⟨S,cap,hf⟩:=(Cq hl).fr (fun _=>rfl);exact fC eG br (hw l cap hlen) (.cons hf .nil) rfl (.inr rfl)
     . cases hq
   . cases hq
 . cases hq
theorem uT:aV Tryz.prog gl 96 jb:=DW fun l cap h=>DV (T:=[]) rfl l cap h
def uU:ao:=zR [⟨.p 2,.mv (kU 0),none⟩,⟨.p 3,.mv (kU 0),none⟩] (zR [zm 14 0,⟨.l 15,.bin .and (.l 14) (kU 4294967295),none⟩,zw 4 15] (zR [zm 16 0,⟨.l 17,.bin .shr (.l 16) (kU 32),none⟩,zw 5 17] (zR [zm 18 1,⟨.l 19,.bin .and (.l 18) (kU 4294967295),none⟩,zw 6 19] (zR [zm 20 1,⟨.l 21,.bin .shr (.l 20) (kU 32),none⟩,zw 7 21] (zR [zm 22 4,zm 23 6,zb 24 .mul 22 23,zw 8 24] (zR [zm 25 5,zm 26 6,zb 27 .mul 25 26,zm 28 8,⟨.l 29,.bin .shr (.l 28) (kU 32),none⟩,zb 30 .add 27 29,zw 9 30] (zR [zm 31 9,⟨.l 32,.bin .and (.l 31) (kU 4294967295),none⟩,zw 10 32] (zR [zm 33 9,⟨.l 34,.bin .shr (.l 33) (kU 32),none⟩,zw 11 34] (zR [zm 35 10,zm 36 4,zm 37 7,zb 38 .mul 36 37,zb 39 .add 35 38,zw 10 39] (zR [zm 40 5,zm 41 7,zb 42 .mul 40 41,zm 43 11,zb 44 .add 42 43,zm 45 10,⟨.l 46,.bin .shr (.l 45) (kU 32),none⟩,zb 47 .add 44 46,zw 2 47] (zR [zm 48 0,zm 49 1,zb 50 .mul 48 49,zw 3 50] (.ret))))))))))))
theorem DX:FT 244=some ⟨51,[0,1,4,5,6,7,8,9,10,11,12,13],[.var (.p 2),.var (.p 3)],uU⟩:=by kernel_rfl
end Go.Ab.Ch1

/-
  Own work: numbers by their digits to a base, the least significant one first: values, parts, changes of a digit, the length without zeros.
-/
namespace Go.Ab.aD
def WV (b:Int):List Int->Int
 | []=>0
 | x::l=>x+b*WV b l
def okW (b:Int)(l:List Int):Prop:=∀x∈l,0<=x/\x<b
theorem uW {b:Int}(hb:0<b)(n:Nat):0<b^n:=Int.pow_pos hb
theorem qD {b:Int}(hb:1<b){m n:Nat}(h:m<=n):b^m<=b^n:=by
 obtain⟨k,rfl⟩:∃k,n=m+k:=⟨n-m,by omega⟩;rw[Int.pow_add];have h1:=uW (show 0<b by omega) m;have h2:=uW (show 0<b by omega) k;have h3:b^m*1<=b^m*b^k:=Int.mul_le_mul_of_nonneg_left (by omega) (Int.le_of_lt h1);omega
def qE:List Int->Nat
 | []=>0
 | x::l=>if qE l=0 then (if x=0 then 0 else 1) else qE l+1
def DY (l:List Int):Prop:=qE l=l.length
end Go.Ab.aD

/-
  Own work: words of 64 binary digits: the product of two words.
-/
namespace Go.Ab.Ch1
open Go.Ab.aD
variable {M:au} {cap c1 c2:Option Nat}
theorem DZ {x y:Int}(hx:0<=x/\x<18446744073709551616)(hy:0<=y/\y<18446744073709551616) :
 let x0:=x%4294967296;let x1:=x/4294967296;let y0:=y%4294967296;let y1:=y/4294967296
 (0<=x0*y0/\x0*y0<=18446744065119617025)/\(0<=x1*y0/\x1*y0<=18446744065119617025)/\(0<=x0*y1/\x0*y1<=18446744065119617025)/\(0<=x1*y1/\x1*y1<=18446744065119617025) /\
   x*y=x1*y1*18446744073709551616+(x1*y0+x0*y1)*4294967296+x0*y0:=by
 intro x0 x1 y0 y1;have a0:0<=x0/\x0<=4294967295:=by omega
 have a1:0<=x1/\x1<=4294967295:=by omega
 have b0:0<=y0/\y0<=4294967295:=by omega
 have b1:0<=y1/\y1<=4294967295:=by omega
 have up:∀{a b:Int},0<=a/\a<=4294967295->0<=b/\b<=4294967295->0<=a*b/\a*b<=18446744065119617025:=fun {a b} ha hb=>
  ⟨Int.mul_nonneg ha.1 hb.1,by have:=Int.mul_le_mul ha.2 hb.2 hb.1 (by omega);omega⟩
 refine⟨up a0 b0,up a1 b0,up a0 b1,up a1 b1,?_⟩;have ex:x=x1*4294967296+x0:=by omega
 have ey:y=y1*4294967296+y0:=by omega
 generalize x0=x0 at *
 generalize x1=x1 at *
 generalize y0=y0 at *
 generalize y1=y1 at *
 subst ex;subst ey;grind
theorem Ea (hft:M.FT=FT)(x y:Int)(hx:0<=x/\x<18446744073709551616)(hy:0<=y/\y<18446744073709551616):aJ M 244 [.uV x,.uV y] [] ⟨.aq [.uV (x*y/18446744073709551616),.uV (x*y%18446744073709551616)],[],[]⟩:=by
 obtain⟨p0,p1,p2,p3,e⟩:=DZ hx hy;refine bq (by rw[hft];exact DX) (by simp) ?_;unfold uU;simp only[enter];repeat' first|(apply LP;rfl;rfl;omega)|(apply Lr (n:=32) (c:=4294967296);rfl;rfl;rfl;decide;rfl)|(apply LM;rfl;rfl;exact⟨by omega,by omega⟩)|(apply LK;rfl;rfl;exact⟨by omega,by omega⟩)|(apply LL;rfl;rfl)|apply Ke|apply aj|apply Kf|apply Kg|apply Ki|(apply Kd;rfl;rfl)|(apply Kh;rfl;rfl)
 refine⟨.inr rfl,rfl,_,rfl,?_,rfl⟩;refine congrArg (fun u=>AV.aq [.uV u,.uV (x*y%18446744073709551616)]) ?_;omega
abbrev uC (x:Int):List AV:=[.uV x]
abbrev ln (l:List Int):List AV:=arr uC l
abbrev wB:Int:=18446744073709551616
section
variable {t b m:Nat} {x y:an} {l:List aw} {pe:List AV} {lo:List (Nat×AV)} {hp:ab} {df wr:List Nat} {L:List Int} {e:TypeId} {v:Int} {Q:ah->Prop}
end
theorem uX (l:List Int):aY (ln l)=0:=jP (fun _=>rfl) l
def uY:ao:=zR [zi 1 0] (.seq (zR [zm 3 0,⟨.l 4,.bin .geq (.l 3) (kU 4294967296),none⟩] (.cond (.l 4) (zR [zm 5 0,⟨.l 6,.bin .shr (.l 5) (kU 32),none⟩,zw 0 6] (.region [zi 1 32])) (.skip))) (.seq (zR [zm 7 0,⟨.l 8,.bin .geq (.l 7) (kU 65536),none⟩] (.cond (.l 8) (zR [zm 9 0,⟨.l 10,.bin .shr (.l 9) (kU 16),none⟩,zw 0 10] (.region [zm 11 1,zc 12 .add 11 16,zw 1 12])) (.skip))) (.seq (zR [zm 13 0,⟨.l 14,.bin .geq (.l 13) (kU 256),none⟩] (.cond (.l 14) (zR [zm 15 0,⟨.l 16,.bin .shr (.l 15) (kU 8),none⟩,zw 0 16] (.region [zm 17 1,zc 18 .add 17 8,zw 1 18])) (.skip))) (zR [zm 19 1,zm 20 0,⟨.l 21,.de .u8 (.l 20),none⟩,⟨.l 22,.index (.c (.str zD0)) (.l 21),none⟩,⟨.l 23,.de .i64 (.l 22),none⟩,zb 24 .add 19 23,zw 1 24] (.ret)))))
theorem Eb:FT 240=some ⟨25,[0,2],[.var (.p 1)],uY⟩:=by kernel_rfl
def db (x:Int):Nat:=if x=0 then 0 else x.toNat.log2+1
theorem Ec {x:Int}{n:Nat}(h:2^n<=x/\x<2^(n+1)):db x=n+1:=by
 have h0:0<x:=by have:=Int.pow_pos (n:=2) (m:=n) (by decide);omega
 obtain⟨k,rfl⟩:=Int.eq_ofNat_of_zero_le (Int.le_of_lt h0);have hk:k≠0:=by omega
 rw[db,if_neg (by omega)];have:(k:Int).toNat=k:=rfl;rw[this,(Nat.log2_eq_iff hk).2 ⟨by exact_mod_cast h.1,by exact_mod_cast h.2⟩]
theorem uZ {x:Int}(h:0<x):1<=db x/\2^(db x-1)<=x/\x<2^db x:=by
 obtain⟨k,rfl⟩:=Int.eq_ofNat_of_zero_le (Int.le_of_lt h);have hk:k≠0:=by omega
 rw[db,if_neg (by omega)];have h1:=(Nat.log2_eq_iff hk).1 rfl;have:(k:Int).toNat=k:=rfl;rw[this];refine⟨by omega,?_,?_⟩
 . rw[Nat.add_sub_cancel];exact_mod_cast h1.1
 . exact_mod_cast h1.2
theorem vc {x:Int}{n:Nat}(h:x<2^n)(h0:0<=x):db x<=n:=by
 by_cases hx:x=0
 . simp[db,hx]
 . obtain⟨h1,h2,h3⟩:=uZ (show 0<x by omega);rcases Nat.lt_or_ge n (db x) with h4|h4
   . have:(2:Int)^n<=2^(db x-1):=qD (by decide) (by omega);omega
   . exact h4
theorem Ed {x:Int}{s n:Nat}{u:Int}(hu:u=x/2^s)(_h0:0<=x)(h:2^n<=u/\u<2^(n+1)):db x=s+n+1:=by
 have hp:=Int.pow_pos (n:=2) (m:=s) (by decide);subst hu;refine Ec ⟨?_,?_⟩
 . have h1:=Int.mul_le_mul_of_nonneg_left h.1 (Int.le_of_lt hp);have h2:=Int.mul_ediv_self_le (x:=x) (k:=2^s) (by omega);rw[Int.pow_add];omega
 . have h1:2^s*(x/2^s+1)<=2^s*2^(n+1):=Int.mul_le_mul_of_nonneg_left (by omega) (Int.le_of_lt hp);have h2:=Int.lt_mul_ediv_self_add (x:=x) (k:=2^s) hp;rw[Int.mul_add]at h1;rw[show s+n+1=s+(n+1) by omega,Int.pow_add];omega
def gK:ae:=[0,1,2,2,3,3,3,3,4,4,4,4,4,4,4,4,5,5,5,5,5,5,5,5,5,5,5,5,5,5,5,5]++List.replicate 32 6++List.replicate 64 7++List.replicate 128 8
theorem Ee:∀k:Fin 256,0<k.val->1<=(gK[k.val]!).toNat/\2^((gK[k.val]!).toNat-1)<=k.val/\k.val<2^((gK[k.val]!).toNat-1+1):=by decide +kernel
theorem Ef {u:Int}(h0:0<u)(h:u<256):∃n:Nat,(gK[u.toNat]!).toNat=n+1/\(2:Int)^n<=u/\u<2^(n+1):=by
 obtain⟨k,rfl⟩:=Int.eq_ofNat_of_zero_le (Int.le_of_lt h0);obtain⟨h1,h2,h3⟩:=Ee ⟨k,by omega⟩ (by simpa using h0);refine⟨(gK[k]!).toNat-1,by simp only at h1;rw[show (k:Int).toNat=k from rfl];omega,?_,?_⟩
 . exact_mod_cast h2
 . exact_mod_cast h3
set_option maxRecDepth 100000 in
theorem Eg (hft:M.FT=FT)(x:Int)(hx:0<=x/\x<18446744073709551616):aJ M 240 [.uV x] [] ⟨.iV (db x),[],[]⟩:=by
 have key:∀(u:Int) (s:Nat),u=x/2^s->(0<u/\u<256)->((gK[u.toNat]!).toNat:Int)+s=db x:=fun u s hu h=>by
  obtain⟨n,e,h2⟩:=Ef h.1 h.2;rw[Ed hu hx.1 h2,e];omega
 have tl:gK.length=256:=by decide +kernel
 have tb:∀k:Nat,(gK[k]!).toNat<256:=fun k=>UInt8.toNat_lt _
 refine bq (by rw[hft];exact Eb) (by simp) ?_;unfold uY;simp only[enter];repeat' first|(apply Lr (n:=32) (c:=4294967296);rfl;rfl;rfl;decide;rfl)|(apply Lr (n:=16) (c:=65536);rfl;rfl;rfl;decide;rfl)|(apply Lr (n:=8) (c:=256);rfl;rfl;rfl;decide;rfl)|(apply LD;rfl)|(apply KP (s:=gK);rfl;rfl;omega)|(apply Lv;rfl;(have:=tb;refine⟨by omega,?_⟩;exact Int.lt_trans (Int.ofNat_lt.2 (tb _)) (by decide)))|(apply KC;rfl;rfl;exact⟨Int.le_trans (by decide) (Int.add_nonneg (by decide) (Int.natCast_nonneg _)),Int.lt_of_le_of_lt (Int.add_le_add (Int.le_refl _) (Int.ofNat_le.2 (Nat.le_of_lt (tb _)))) (by decide)⟩)|(apply KC;rfl;rfl;omega)|apply Ke|apply aj|apply Kf|apply Kg|apply Ki|apply Kl|(apply Kj;rfl)|(apply Kk;rfl)|(apply KJ;rfl;rfl)|(apply Kd;rfl;rfl)|(apply Kh;rfl;rfl)|(intro _;omega)|intro _
 all_goals try omega
 all_goals refine⟨.inr rfl,rfl,_,rfl,congrArg (fun z=>AV.iV z) ?_,rfl⟩
 . have e:x/4294967296/65536/256%256=x/4294967296/65536/256:=by omega
   rw[e,←key (x/4294967296/65536/256) 56 (by rw[show (2:Int)^56=72057594037927936 from rfl];omega) ⟨by omega,by omega⟩];omega
 . have e:x/4294967296/65536%256=x/4294967296/65536:=by omega
   rw[e,←key (x/4294967296/65536) 48 (by rw[show (2:Int)^48=281474976710656 from rfl];omega) ⟨by omega,by omega⟩];omega
 . have e:x/4294967296/256%256=x/4294967296/256:=by omega
   rw[e,←key (x/4294967296/256) 40 (by rw[show (2:Int)^40=1099511627776 from rfl];omega) ⟨by omega,by omega⟩];omega
 . have e:x/4294967296%256=x/4294967296:=by omega
   rw[e,←key (x/4294967296) 32 (by rw[show (2:Int)^32=4294967296 from rfl]) ⟨by omega,by omega⟩];omega
 . have e:x/65536/256%256=x/65536/256:=by omega
   rw[e,←key (x/65536/256) 24 (by rw[show (2:Int)^24=16777216 from rfl];omega) ⟨by omega,by omega⟩];omega
 . have e:x/65536%256=x/65536:=by omega
   rw[e,←key (x/65536) 16 (by rw[show (2:Int)^16=65536 from rfl]) ⟨by omega,by omega⟩];omega
 . have e:x/256%256=x/256:=by omega
   rw[e,←key (x/256) 8 (by rw[show (2:Int)^8=256 from rfl]) ⟨by omega,by omega⟩];omega
 . by_cases h0:x=0
   . subst h0;decide +kernel
   . have e:x%256=x:=by omega
     rw[e,←key x 0 (by simp) ⟨by omega,by omega⟩];omega
variable {y1 y0 v w q r:Int}
section
variable {t m:Nat} {x y:an} {l:List aw} {pe:List AV} {lo:List (Nat×AV)} {hp:ab} {df wr:List Nat} {L:List Int} {e:TypeId} {a b:Int} {Q:ah->Prop}
end
end Go.Ab.Ch1

/-
  Own work: Knuth's division: the guess of a digit is at most one too great.
-/
namespace Go.Ab.aD
structure vd (t2 t1 t0 v1 v0 T V p:Int):Prop where
 h2:0<=t2
 h1:0<=t1/\t1<18446744073709551616
 h0:0<=t0/\t0<18446744073709551616
 w1:9223372036854775808<=v1/\v1<18446744073709551616
 w0:0<=v0/\v0<18446744073709551616
 hp:1<=p
 lo:((t2*18446744073709551616+t1)*18446744073709551616+t0)*p<=T
 hi:T<((t2*18446744073709551616+t1)*18446744073709551616+t0+1)*p
 Ka:(v1*18446744073709551616+v0)*p<=V
 Eh:V<(v1*18446744073709551616+v0+1)*p
 hT:T<18446744073709551616*V
variable {t2 t1 t0 v1 v0 T V p q r:Int}
theorem vd.top (C:vd t2 t1 t0 v1 v0 T V p):t2<=v1:=by
 have h1:=C.h1;have h0:=C.h0;have w0:=C.w0;have a1:((t2*18446744073709551616+t1)*18446744073709551616+t0)*p<(18446744073709551616*(v1*18446744073709551616+v0+1))*p:=by
  have:=C.lo;have:=C.hT;have:=C.Eh;rw[Int.mul_assoc 18446744073709551616];omega
 have a2:=Int.lt_of_mul_lt_mul_right a1 (by have:=C.hp;omega);omega
end Go.Ab.aD

/-
  Own work: words of integers: a digit of a quotient (Knuth's step): the loops.
-/
namespace Go.Ab.Ch1
open Go.Ab.aD
variable {M:au} {cu cv:Option Nat}
section
variable {t bu bv m:Nat} {x y:an} {l:List aw} {pe:List AV} {lo:List (Nat×AV)} {hp:ab} {df wr:List Nat} {P S X V Y:List Int} {e e':TypeId} {v:Int} {Q:ah->Prop}
end
variable {bu bv k:Nat} {e e':TypeId} {hp:ab} {P S X V Y:List Int}
variable {j:Nat} {U:List Int}
variable {cap c1 c2:Option Nat}
def ve (x:AV)(l:List Int):Prop:=x = .vs (ln l) l.length none\/(x = .ak/\l=[])
theorem Ei (l:List Int):cE (ln l)=ln l:=pV (fun _=>rfl) l
inductive gm:AV->Int->Prop
 | small {s:Int} (h : -9223372036854775808<=s/\s<9223372036854775808):gm (.agg [.int .i64 s,.ak]) s
 | Ej {σ z:Int} {w:List Int} (hs:σ=1\/σ = -1) (ok:okW wB w) (nr:DY w) (hw:9223372036854775808<=WV wB w) (hz:z=σ*WV wB w):gm (.agg [.int .i64 σ,.vs (ln w) w.length none]) z
def Ek (v:AV)(hh:ab)(v0:AV):Prop:=∃v1,ec hh v v1/\v1.top=0/\bz v1=v0
def lq (M:au)(g:Nat)(ars:List AV)(v0:AV):Prop:=∃v hh,Ek v hh v0/\aJ M g ars [] ⟨v,hh,[]⟩
set_option maxRecDepth 1000000
variable {N:Nat}
theorem gm.shape {v:AV}{z:Int}(h:gm v z):∃s w,v = .agg [.iV s,w]/\dg w=true/\w.top=0/\bz w=w:=by
 cases h with
 | small=>exact⟨_,_,rfl,rfl,rfl,rfl⟩
 | @Ej σ z w=>exact⟨_,_,rfl,rfl,uX _,by rw[bz,Ei]⟩
theorem gm.one {s:Int}{w:AV}{z:Int}(h:gm (.agg [.iV s,w]) z):dg w=true/\w.top=0/\bz w=w:=by
 obtain⟨s',w',e,h⟩:=h.shape;cases e;exact h
def np (v:AV)(n d:Int):Prop:=∃s w s' w',v = .agg [.iV s,w,.iV s',w']/\gm (.agg [.iV s,w]) n/\gm (.agg [.iV s',w']) d
section
variable {t n m:Nat} {x y:an} {l:List aw} {pe:List AV} {lo:List (Nat×AV)} {H:ab} {df wr:List Nat} {c c' new:List AV} {a:Option aK} {Q:ah->Prop}
end
def lr (v:AV)(q:Rat):Prop:=np v q.num q.den
theorem vf {n:Int}:(Rat.divInt n 1).num=n/\(Rat.divInt n 1).den=1:=by
 refine⟨?_,?_⟩
 . rw[Rat.num_divInt];simp
 . rw[Rat.den_divInt];simp
variable {N2:Nat}
theorem lr.one {v:AV}{n:Int}(h:np v n 1):lr v (Rat.divInt n 1):=by
 unfold lr;rw[vf.1,vf.2];exact h
section
variable {t:Nat} {x y:an} {l:List aw} {pe:List AV} {lo:List (Nat×AV)} {df wr:List Nat} {a:Int} {k:IntKind} {Q:ah->Prop}
end
variable {P:Program} {T:List (Nat×Spec)} {g:Nat}
theorem lq.runK {ars:List AV}{v0:AV}(h:lq (bA P FT T) g ars v0)(ht:aY ars=0):pW P FT T g ars v0:=by
 obtain⟨v,hh,⟨v1,h1,h2,h3⟩,hr⟩:=h;exact⟨v,hh,v1,hr,h1,ht,h2,h3⟩
theorem lq.eq {ars:List AV}{v0:AV}{hp:ab}(h:lq (bA P FT T) g ars v0)(ht:aY ars=0):lk P FT T g ars hp=some ⟨v0,hp,[]⟩:=uD (h.runK ht)
theorem ve.top {x:AV}{l:List Int}(h:ve x l):x.top=0:=by
 rcases h with rfl|⟨rfl,rfl⟩
 . exact uX l
 . rfl
theorem gm.top {v:AV}{z:Int}(h:gm v z):v.top=0:=by
 obtain⟨s,w,rfl,_,t,_⟩:=h.shape;simp[AV.top,aY,t]
theorem lr.top {v:AV}{q:Rat}(h:lr v q):v.top=0:=by
 obtain⟨s,w,s',w',rfl,h1,h2⟩:=h;have t1:=h1.one.2.1;have t2:=h2.one.2.1;simp[AV.top,aY,t1,t2]
open Go.Proofs
noncomputable abbrev sK (T:List (Nat×Spec))(g:Nat):Spec:=lk Tryz.prog FT T g
theorem bU {g:Nat}(hT:cR Tryz.prog gl (cT T)):aV Tryz.prog gl g (sK T g):=CI eG hT
noncomputable def nq:Spec:=sK [] 244
theorem El:aV Tryz.prog gl 244 nq:=bU br
theorem Em:∀(x y:Int) h,(0<=x/\x<18446744073709551616)->(0<=y/\y<18446744073709551616)->nq [.uV x,.uV y] h=some ⟨.aq [.uV (x*y/18446744073709551616),.uV (x*y%18446744073709551616)],h,[]⟩:=fun x y h hx hy=>bQ (Ea bM x y hx hy) rfl rfl rfl h
noncomputable def qF:Spec:=sK [] 240
theorem En:aV Tryz.prog gl 240 qF:=bU br
theorem Eo:∀(x:Int) h,(0<=x/\x<18446744073709551616)->qF [.uV x] h=some ⟨.iV (db x),h,[]⟩:=fun x h hx=>bQ (Eg bM x hx) rfl rfl rfl h
theorem np.top {v:AV}{n d:Int}(h:np v n d):v.top=0:=by
 obtain⟨s,w,s',w',rfl,h1,h2⟩:=h;have t1:=h1.one.2.1;have t2:=h2.one.2.1;simp[AV.top,aY,t1,t2]
def vg:ao:=zR [⟨.p 1,.mv (.c (.str [])),none⟩] (zR [zm 3 0,z1 4 226 3,zw 1 4] (.ret))
theorem Ep:FT 183=some ⟨5,[0,2],[.var (.p 1)],vg⟩:=by kernel_rfl
def vh:ao:=zR [⟨.p 1,.mv (.c (.str [])),none⟩] (zR [zm 3 0,⟨.l 4,.call (kF 267) [(.l 3),(kI 10)],none⟩,zw 1 4] (.ret))
theorem Er:FT 226=some ⟨5,[0,2],[.var (.p 1)],vh⟩:=by kernel_rfl
def vi:ao:=zR [⟨.p 1,.mv (.c (.str [])),none⟩] (.seq (zR [zm 3 0,zc 4 .lss 3 10] (.cond (.l 4) (zR [zm 5 0,zm 6 0,zc 7 .add 6 1,⟨.l 8,.slice .str 1 (.c (.str zD1)) (some (.l 5)) (some (.l 7)) none,none⟩,zw 1 8] (.ret)) (.skip))) (zR [zm 9 0,zc 10 .mul 9 2,zm 11 0,zc 12 .mul 11 2,zc 13 .add 12 2,⟨.l 14,.slice .str 1 (.c (.str zD2)) (some (.l 10)) (some (.l 13)) none,none⟩,zw 1 14] (.ret)))
theorem Es:FT 304=some ⟨15,[0,2],[.var (.p 1)],vi⟩:=by kernel_rfl
def vj:ao:=zR [⟨.p 2,.mv (.c (.str [])),none⟩] (.seq (zR [zm 10 1,zc 11 .eql 10 10] (.cond (.l 11) (.seq (zR [zm 12 0,⟨.l 13,.bin .leq (kI 0) (.l 12),none⟩,zn 14 13,zg (zm 15 0) 14 true,zg (zc 16 .lss 15 100) 14 true,zp 17 14 16] (.cond (.l 17) (zR [zm 18 0,z1 19 304 18,zw 2 19] (.ret)) (.skip))) (zR [⟨.p 3,.alloc 301 [.int .u8 (0),.int .u8 (0),.int .u8 (0),.int .u8 (0),.int .u8 (0),.int .u8 (0),.int .u8 (0),.int .u8 (0),.int .u8 (0),.int .u8 (0),.int .u8 (0),.int .u8 (0),.int .u8 (0),.int .u8 (0),.int .u8 (0),.int .u8 (0),.int .u8 (0),.int .u8 (0),.int .u8 (0),.int .u8 (0),.int .u8 (0),.int .u8 (0),.int .u8 (0),.int .u8 (0)],none⟩] (zR [zm 20 0,⟨.l 21,.de .u64 (.l 20),none⟩,zw 4 21] (.seq (zR [zm 22 0,zc 23 .lss 22 0] (.cond (.l 23) (.region [zm 24 4,⟨.l 25,.un .neg (.l 24),none⟩,zw 4 25]) (.skip))) (zR [zm 26 4,z1 27 305 26,zw 5 27] (zR [zm 28 5,⟨.l 29,.bin .add (kI 1) (.l 28),none⟩,⟨.l 30,.fp 24 1 (.p 3) (some (kI 1)) (some (.l 29)),none⟩,zm 31 4,z2 32 306 30 31] (.seq (zR [zm 33 0,zc 34 .lss 33 0] (.cond (.l 34) (zR [⟨.l 35,.ee (some 24) 1 (.p 3) (kI 0),none⟩,⟨.no,.store 1 (.l 35) (.c (.int .u8 (45))),none⟩] (zR [zm 36 5,⟨.l 37,.bin .add (kI 1) (.l 36),none⟩,⟨.l 38,.fp 24 1 (.p 3) none (some (.l 37)),none⟩,⟨.l 39,.gQ (.l 38),none⟩,zw 2 39] (.ret))) (.skip))) (zR [zm 40 5,⟨.l 41,.bin .add (kI 1) (.l 40),none⟩,⟨.l 42,.fp 24 1 (.p 3) (some (kI 1)) (some (.l 41)),none⟩,⟨.l 43,.gQ (.l 42),none⟩,zw 2 43] (.ret))))))))) (.skip))) (zR [zm 45 0,⟨.l 46,.de .u64 (.l 45),none⟩,zm 47 1,zm 48 0,zc 49 .lss 48 0,⟨.l 50,.call (kF 307) [(.c (.ak)),(.l 46),(.l 47),(.l 49),(.c (.bool false))],none⟩,zn 44 50,ze 51 0 44,ze 52 1 44,zn 8 51,zw 6 52] (zR [zm 53 6,zw 2 53] (.ret))))
theorem Et:FT 267=some ⟨54,[0,1,4,5,6,7,9],[.var (.p 2)],vj⟩:=by kernel_rfl
def vk:ao:=zR [zi 1 0] (zR [zm 4 0,z1 5 240 4,z1 6 324 5,zw 2 6] (zR [zm 7 2,zm 8 0,zm 9 2,⟨.l 10,.ee (some 20) 1 (.c (.vp [.uV (1),.uV (10),.uV (100),.uV (1000),.uV (10000),.uV (100000),.uV (1000000),.uV (10000000),.uV (100000000),.uV (1000000000),.uV (10000000000),.uV (100000000000),.uV (1000000000000),.uV (10000000000000),.uV (100000000000000),.uV (1000000000000000),.uV (10000000000000000),.uV (100000000000000000),.uV (1000000000000000000),.uV (10000000000000000000)])) (.l 9),none⟩,zd 11 1 10,zb 12 .geq 8 11,z1 13 325 12,zb 14 .add 7 13,zw 1 14] (.ret)))
theorem Eu:FT 305=some ⟨15,[0,2,3],[.var (.p 1)],vk⟩:=by kernel_rfl
def nt:ao:=.seq (zR [zm 19 2,zc 20 .geq 19 8] (.cond (.l 20) (.skip) (.exit 0))) (.block 1 (zR [zm 21 1,⟨.l 22,.bin .rem (.l 21) (kU 100000000),none⟩,⟨.l 23,.de .u32 (.l 22),none⟩,zw 3 23] (zR [zm 24 1,⟨.l 25,.bin .quo (.l 24) (kU 100000000),none⟩,zw 1 25] (zR [zm 26 3,⟨.l 27,.bin .quo (.l 26) (kW 10000),none⟩,zm 28 3,⟨.l 29,.bin .rem (.l 28) (kW 10000),none⟩,zw 4 27,zw 5 29] (zR [zm 30 5,⟨.l 31,.bin .quo (.l 30) (kW 100),none⟩,⟨.l 32,.bin .mul (.l 31) (kW 2),none⟩,zm 33 5,⟨.l 34,.bin .rem (.l 33) (kW 100),none⟩,⟨.l 35,.bin .mul (.l 34) (kW 2),none⟩,zw 6 32,zw 7 35] (zR [zm 36 4,⟨.l 37,.bin .quo (.l 36) (kW 100),none⟩,⟨.l 38,.bin .mul (.l 37) (kW 2),none⟩,zm 39 4,⟨.l 40,.bin .rem (.l 39) (kW 100),none⟩,⟨.l 41,.bin .mul (.l 40) (kW 2),none⟩,zw 8 38,zw 9 41] (.seq (.draw [(zm 42 0,[]),(zm 43 2,[0]),(zc 44 .sub 43 1,[0]),(zm 45 0,[0,1,2]),(zm 46 2,[0,1,2,3]),(zc 47 .sub 46 2,[0,1,2,3]),(zm 48 7,[0,1,2,3,4,5]),(⟨.l 49,.bin .add (.l 48) (kW 1),none⟩,[0,1,2,3,4,5]),(⟨.l 50,.index (.c (.str zD2)) (.l 49),none⟩,[0,1,2,3,4,5]),(zm 51 7,[0,1,2,3,4,5,6,7,8]),(⟨.l 52,.index (.c (.str zD2)) (.l 51),none⟩,[0,1,2,3,4,5,6,7,8]),(za 53 1 42 44,[3,4,5,9,10]),(zS 1 53 50,[3,4,5,9,10]),(za 54 1 45 47,[]),(zS 1 54 52,[])]) (.seq (.draw [(zm 55 0,[]),(zm 56 2,[0]),(zc 57 .sub 56 3,[0]),(zm 58 0,[0,1,2]),(zm 59 2,[0,1,2,3]),(zc 60 .sub 59 4,[0,1,2,3]),(zm 61 6,[0,1,2,3,4,5]),(⟨.l 62,.bin .add (.l 61) (kW 1),none⟩,[0,1,2,3,4,5]),(⟨.l 63,.index (.c (.str zD2)) (.l 62),none⟩,[0,1,2,3,4,5]),(zm 64 6,[0,1,2,3,4,5,6,7,8]),(⟨.l 65,.index (.c (.str zD2)) (.l 64),none⟩,[0,1,2,3,4,5,6,7,8]),(za 66 1 55 57,[3,4,5,9,10]),(zS 1 66 63,[3,4,5,9,10]),(za 67 1 58 60,[]),(zS 1 67 65,[])]) (.seq (.draw [(zm 68 0,[]),(zm 69 2,[0]),(zc 70 .sub 69 5,[0]),(zm 71 0,[0,1,2]),(zm 72 2,[0,1,2,3]),(zc 73 .sub 72 6,[0,1,2,3]),(zm 74 9,[0,1,2,3,4,5]),(⟨.l 75,.bin .add (.l 74) (kW 1),none⟩,[0,1,2,3,4,5]),(⟨.l 76,.index (.c (.str zD2)) (.l 75),none⟩,[0,1,2,3,4,5]),(zm 77 9,[0,1,2,3,4,5,6,7,8]),(⟨.l 78,.index (.c (.str zD2)) (.l 77),none⟩,[0,1,2,3,4,5,6,7,8]),(za 79 1 68 70,[3,4,5,9,10]),(zS 1 79 76,[3,4,5,9,10]),(za 80 1 71 73,[]),(zS 1 80 78,[])]) (.seq (.draw [(zm 81 0,[]),(zm 82 2,[0]),(zc 83 .sub 82 7,[0]),(zm 84 0,[0,1,2]),(zm 85 2,[0,1,2,3]),(zc 86 .sub 85 8,[0,1,2,3]),(zm 87 8,[0,1,2,3,4,5]),(⟨.l 88,.bin .add (.l 87) (kW 1),none⟩,[0,1,2,3,4,5]),(⟨.l 89,.index (.c (.str zD2)) (.l 88),none⟩,[0,1,2,3,4,5]),(zm 90 8,[0,1,2,3,4,5,6,7,8]),(⟨.l 91,.index (.c (.str zD2)) (.l 90),none⟩,[0,1,2,3,4,5,6,7,8]),(za 92 1 81 83,[3,4,5,9,10]),(zS 1 92 89,[3,4,5,9,10]),(za 93 1 84 86,[]),(zS 1 93 91,[])]) (.region [zm 94 2,zc 95 .sub 94 8,zw 2 95])))))))))))
def vl:ao:=zR [zm 17 0,zl 18 17,zw 2 18] (.seq (.block 0 (.loop nt)) (zR [zm 96 1,⟨.l 97,.de .u32 (.l 96),none⟩,zw 10 97] (.seq (zR [zm 98 2,zc 99 .geq 98 4] (.cond (.l 99) (zR [zm 100 10,⟨.l 101,.bin .rem (.l 100) (kW 10000),none⟩,zw 11 101] (zR [zm 102 10,⟨.l 103,.bin .quo (.l 102) (kW 10000),none⟩,zw 10 103] (zR [zm 104 11,⟨.l 105,.bin .quo (.l 104) (kW 100),none⟩,⟨.l 106,.bin .mul (.l 105) (kW 2),none⟩,zm 107 11,⟨.l 108,.bin .rem (.l 107) (kW 100),none⟩,⟨.l 109,.bin .mul (.l 108) (kW 2),none⟩,zw 12 106,zw 13 109] (.seq (.draw [(zm 110 0,[]),(zm 111 2,[0]),(zc 112 .sub 111 1,[0]),(zm 113 0,[0,1,2]),(zm 114 2,[0,1,2,3]),(zc 115 .sub 114 2,[0,1,2,3]),(zm 116 13,[0,1,2,3,4,5]),(⟨.l 117,.bin .add (.l 116) (kW 1),none⟩,[0,1,2,3,4,5]),(⟨.l 118,.index (.c (.str zD2)) (.l 117),none⟩,[0,1,2,3,4,5]),(zm 119 13,[0,1,2,3,4,5,6,7,8]),(⟨.l 120,.index (.c (.str zD2)) (.l 119),none⟩,[0,1,2,3,4,5,6,7,8]),(za 121 1 110 112,[3,4,5,9,10]),(zS 1 121 118,[3,4,5,9,10]),(za 122 1 113 115,[]),(zS 1 122 120,[])]) (.seq (.draw [(zm 123 0,[]),(zm 124 2,[0]),(zc 125 .sub 124 3,[0]),(zm 126 0,[0,1,2]),(zm 127 2,[0,1,2,3]),(zc 128 .sub 127 4,[0,1,2,3]),(zm 129 12,[0,1,2,3,4,5]),(⟨.l 130,.bin .add (.l 129) (kW 1),none⟩,[0,1,2,3,4,5]),(⟨.l 131,.index (.c (.str zD2)) (.l 130),none⟩,[0,1,2,3,4,5]),(zm 132 12,[0,1,2,3,4,5,6,7,8]),(⟨.l 133,.index (.c (.str zD2)) (.l 132),none⟩,[0,1,2,3,4,5,6,7,8]),(za 134 1 123 125,[3,4,5,9,10]),(zS 1 134 131,[3,4,5,9,10]),(za 135 1 126 128,[]),(zS 1 135 133,[])]) (.region [zm 136 2,zc 137 .sub 136 4,zw 2 137])))))) (.skip))) (.seq (zR [zm 138 2,zc 139 .geq 138 2] (.cond (.l 139) (zR [zm 140 10,⟨.l 141,.bin .rem (.l 140) (kW 100),none⟩,⟨.l 142,.bin .mul (.l 141) (kW 2),none⟩,zw 14 142] (zR [zm 143 10,⟨.l 144,.bin .quo (.l 143) (kW 100),none⟩,zw 10 144] (.seq (.draw [(zm 145 0,[]),(zm 146 2,[0]),(zc 147 .sub 146 1,[0]),(zm 148 0,[0,1,2]),(zm 149 2,[0,1,2,3]),(zc 150 .sub 149 2,[0,1,2,3]),(zm 151 14,[0,1,2,3,4,5]),(⟨.l 152,.bin .add (.l 151) (kW 1),none⟩,[0,1,2,3,4,5]),(⟨.l 153,.index (.c (.str zD2)) (.l 152),none⟩,[0,1,2,3,4,5]),(zm 154 14,[0,1,2,3,4,5,6,7,8]),(⟨.l 155,.index (.c (.str zD2)) (.l 154),none⟩,[0,1,2,3,4,5,6,7,8]),(za 156 1 145 147,[3,4,5,9,10]),(zS 1 156 153,[3,4,5,9,10]),(za 157 1 148 150,[]),(zS 1 157 155,[])]) (.region [zm 158 2,zc 159 .sub 158 2,zw 2 159])))) (.skip))) (zR [zm 160 2,zc 161 .gtr 160 0] (.cond (.l 161) (.region [zm 162 0,zm 163 10,⟨.l 164,.bin .add (kW 48) (.l 163),none⟩,⟨.l 165,.de .u8 (.l 164),none⟩,⟨.l 166,.ee none 1 (.l 162) (kI 0),none⟩,zS 1 166 165]) (.skip)))))))
theorem Ev:FT 306=some ⟨167,[0,1,4,5,6,7,8,9,10,11,12,13,14,15,16],[],vl⟩:=by kernel_rfl
def vm:ao:=zR [zi 1 0] (zR [zm 3 0,zc 4 .mul 3 78913,⟨.l 5,.bin .shr (.l 4) (kU 18),none⟩,zw 1 5] (.ret))
theorem Ew:FT 324=some ⟨6,[0,2],[.var (.p 1)],vm⟩:=by kernel_rfl
def vn:ao:=zR [zi 1 0] (.seq (zR [zm 3 0] (.cond (.l 3) (zR [zi 1 1] (.ret)) (.skip))) (zR [zi 1 0] (.ret)))
theorem Ey:FT 325=some ⟨4,[0,2],[.var (.p 1)],vn⟩:=by kernel_rfl
end Go.Ab.Ch1

/-
  Own work: decimal texts of natural numbers: digits, texts, values.
-/
namespace Go.Ab.aD
def dn (d:Nat):UInt8:=UInt8.ofNat (48+d)
def bg:Nat->Nat->ae
 | 0,_=>[]
 | k+1,n=>bg k (n/10)++[dn (n%10)]
def aH (n:Nat):ae:=if n<10 then [dn n] else aH (n/10)++[dn (n%10)]
termination_by n
decreasing_by omega
def bG (n:Nat)(s:ae):Nat:=s.foldl (fun n b=>10*n+(b.toNat-48)) n
def nu (c:Nat):Bool:=48<=c && c<58
abbrev bk (b:UInt8):Bool:=nu b.toNat
theorem jX (b:UInt8):bk b=true↔48<=b.toNat/\b.toNat<58:=by simp[bk,nu]
theorem jY {d:Nat}(h:d<10):(dn d).toNat=48+d:=by simp[dn];omega
theorem qG {d:Nat}(h:d<10):bk (dn d)=true:=by rw[jX,jY h];omega
theorem Ez {b:UInt8}(h:bk b=true):dn (b.toNat-48)=b:=by
 rw[jX]at h;apply UInt8.toNat_inj.1;rw[jY (by omega)];omega
theorem cj:∀(k n:Nat),(bg k n).length=k
 | 0,_=>rfl
 | k+1,n=>by simp[bg,cj k]
theorem fj:∀(k n:Nat),(bg k n).all bk=true
 | 0,_=>rfl
 | k+1,n=>by simp only[bg,List.all_append,fj k,List.all_cons,List.all_nil,qG (Nat.mod_lt n (show 10 > 0 by decide)),Bool.and_self]
theorem vo:∀{k n j:Nat},j<k->(bg k n)[j]! = dn (n/10^(k-1-j)%10)
 | k+1,n,j,h=>by
  rw[bg];by_cases hj:j<k
  . have h1:j<(bg k (n/10)).length:=by rw[cj];exact hj
    have e:(bg k (n/10)++[dn (n%10)])[j]! = (bg k (n/10))[j]! := by
     simp only[List.getElem!_eq_getElem?_getD,List.getElem?_append_left h1]
    rw[e,vo hj,show k+1-1-j=(k-1-j)+1 by omega,Nat.pow_succ,Nat.mul_comm,←Nat.div_div_eq_div_mul]
  . obtain rfl:j=k:=by omega
    have e:(bg j (n/10)++[dn (n%10)])[j]! = dn (n%10):=by
     simp only[List.getElem!_eq_getElem?_getD];rw[List.getElem?_append_right (by rw[cj];exact Nat.le_refl _),cj];simp
    rw[e];simp
theorem EA {k n:Nat}{s:ae}(hl:s.length=k)(h:∀j,j<k->s[j]! = dn (n/10^(k-1-j)%10)):s=bg k n:=by
 apply List.ext_getElem (by rw[hl,cj]);intro i h1 h2;have e1:=h i (by omega);have e2:=vo (n:=n) (show i<k by omega);rw[←e2]at e1;simpa[List.getElem!_eq_getElem?_getD,List.getElem?_eq_getElem h1,List.getElem?_eq_getElem h2] using e1
theorem iu {n:Nat}(h:n<10):aH n=[dn n]:=by rw[aH,if_pos h]
theorem jc {n:Nat}(h:¬n<10):aH n=aH (n/10)++[dn (n%10)]:=by rw[aH,if_neg h]
theorem qH:∀{k n:Nat},n<10^(k+1)->(k=0\/10^k<=n)->aH n=bg (k+1) n
 | 0,n,h,_=>by
  have h:n<10:=by simpa using h
  rw[iu h];simp[bg,Nat.mod_eq_of_lt h]
 | k+1,n,h,h2=>by
  have h2:10^(k+1)<=n:=h2.resolve_left (by omega);rw[Nat.pow_succ]at h h2;have hp:0<10^k:=Nat.pow_pos (by decide);rw[jc (by omega),qH (k:=k) (n:=n/10) (by omega) (.inr (by omega))];rfl
theorem lu (n:Nat)(s t:ae):bG n (s++t)=bG (bG n s) t:=by simp[bG,List.foldl_append]
theorem lv (n:Nat)(b:UInt8)(s:ae):bG n (b::s)=bG (10*n+(b.toNat-48)) s:=by rw[bG,bG,List.foldl_cons]
theorem nw (n:Nat)(b:UInt8):bG n [b]=10*n+(b.toNat-48):=by rw[bG,List.foldl_cons,List.foldl_nil]
theorem vq (s:ae):∀(n:Nat),bG n s=n*10^s.length+bG 0 s:=by
 induction s with
 | nil=>intro n;simp[bG]
 | cons b s ih=>
  intro n;rw[lv,lv,ih,ih (10*0+_),List.length_cons,Nat.pow_succ,Nat.add_mul];have:10*n*10^s.length=n*(10^s.length*10):=by rw[Nat.mul_comm 10 n,Nat.mul_assoc,Nat.mul_comm 10]
  rw[this];simp only[Nat.mul_zero,Nat.zero_add];omega
theorem qI (s:ae):s.all bk=true->bG 0 s<10^s.length:=by
 induction s with
 | nil=>intro _;simp[bG]
 | cons b s ih=>
  intro h;simp only[List.all_cons,Bool.and_eq_true]at h;have hb:=(jX b).1 h.1;have:=ih h.2;rw[lv,vq,List.length_cons,Nat.pow_succ];have h2:(10*0+(b.toNat-48))*10^s.length<=9*10^s.length:=Nat.mul_le_mul_right _ (by omega);omega
theorem qJ:∀(k n m:Nat),bG m (bg k n)=m*10^k+n%10^k
 | 0,n,m=>by simp[bG,bg,Nat.mod_one]
 | k+1,n,m=>by
  rw[bg,lu,qJ k,nw,jY (Nat.mod_lt _ (by decide)),Nat.pow_succ];have e:n%(10^k*10)=n%10+10*(n/10%10^k):=by rw[Nat.mul_comm (10^k) 10,Nat.mod_mul]
  rw[e,Nat.mul_add,←Nat.mul_assoc m,Nat.mul_comm 10 (m*10^k)];omega
theorem qK (n:Nat):bG 0 (aH n)=n:=by
 induction n using Nat.strongRecOn with
 | _ n ih=>
  by_cases h:n<10
  . rw[iu h,nw,jY h];omega
  . rw[jc h,lu,ih _ (by omega),nw,jY (Nat.mod_lt _ (by decide))];omega
theorem fH (n:Nat):(aH n).all bk=true:=by
 induction n using Nat.strongRecOn with
 | _ n ih=>
  by_cases h:n<10
  . rw[iu h];simp[qG h]
  . rw[jc h,List.all_append,ih _ (by omega)];simp[qG (Nat.mod_lt n (show 10 > 0 by decide))]
theorem jd (n:Nat):aH n≠[]:=by
 by_cases h:n<10
 . rw[iu h];simp
 . rw[jc h];simp
def EB (s:ae):Prop:=s≠[]/\s.all bk=true/\(s.head? = some 48->s.length=1)
theorem EC {s:ae}(h:s.all bk=true):bg s.length (bG 0 s)=s:=by
 have key:∀(k:Nat) (s:ae),s.length=k->s.all bk=true->bg s.length (bG 0 s)=s:=by
  intro k;induction k with
  | zero=>intro s hs _;rw[List.eq_nil_of_length_eq_zero hs];rfl
  | succ k ih=>
   intro s hs h;rcases List.eq_nil_or_concat s with rfl|⟨t,c,e⟩
   . simp at hs
   . rw[List.concat_eq_append]at e;subst e;simp only[List.length_append,List.length_cons,List.length_nil]at hs ⊢;simp only[List.all_append,List.all_cons,List.all_nil,Bool.and_true,Bool.and_eq_true]at h;have hc:=(jX c).1 h.2;rw[show t.length+(0+1)=t.length+1 by omega,bg,lu,nw];rw[show (10*bG 0 t+(c.toNat-48))/10=bG 0 t by omega,show (10*bG 0 t+(c.toNat-48))%10=c.toNat-48 by omega,ih t (by omega) h.1,Ez h.2]
 exact key _ s rfl h
theorem ED (n:Nat):EB (aH n):=by
 refine⟨jd n,fH n,?_⟩;induction n using Nat.strongRecOn with
 | _ n ih=>
  by_cases h:n<10
  . rw[iu h];intro _;rfl
  . rw[jc h];intro e;have e2:(aH (n/10)).head? = some 48:=by
     cases hd:aH (n/10) with
     | nil=>exact absurd hd (jd _)
     | cons b t=>rw[hd]at e;exact e
    have l1:=ih _ (show n/10<n by omega) e2;exfalso;have e3:aH (n/10)=[48]:=by
     cases hd:aH (n/10) with
     | nil=>exact absurd hd (jd _)
     | cons b t=>
      rw[hd]at e2 l1;simp at l1 e2;rw[e2,l1]
    have:=qK (n/10);rw[e3]at this;simp[bG]at this;omega
theorem eJ {n k:Nat}(h:n<10^k)(hk:0<k):(aH n).length<=k:=by
 induction k generalizing n with
 | zero=>omega
 | succ k ih=>
  by_cases h1:n<10
  . rw[iu h1];simp
  . rw[jc h1,List.length_append];rw[Nat.pow_succ]at h;have h0:0<k:=by
     rcases Nat.eq_zero_or_pos k with rfl|hp
     . simp at h;omega
     . exact hp
    have:=ih (n:=n/10) (by omega) h0;simp;omega
end Go.Ab.aD

/-
  Own work: decimal texts of machine integers: bytes, the number of digits, texts of two digits.
-/
namespace Go.Ab.Ch1
open Go.Ab.aD
variable {M:au} {cap:Option Nat}
abbrev gn (k:Nat):AV:=.fn (.func k) [] []
def aM (s:ae):List AV:=s.map fun c=>.int .u8 c.toNat
theorem ny (a:ae):(aM a).length=a.length:=by simp[aM]
theorem vt:∀a:ae,aY (aM a)=0
 | []=>rfl
 | c::a=>by
  have:=vt a;simp only[aM]at this;simp only[aM,List.map_cons,aY,this];rfl
theorem vu:∀a:ae,bytesOf (aM a)=some a
 | []=>rfl
 | c::a=>by
  have h:=vu a;simp only[aM]at h;simp only[aM,List.map_cons,bytesOf,h];rw[show ((c.toNat:Int)).toNat=c.toNat from rfl,UInt8.ofNat_toNat]
theorem EE {L:ae}{m:Nat}{c:UInt8}(h:m<L.length):overwrite (aM L) m [.int .u8 c.toNat]=aM (L.set m c):=by
 apply List.ext_getElem?;intro i;simp only[overwrite,aM,List.length_cons,List.length_nil];rw[←List.map_take,←List.map_drop];by_cases h1:i<m
 . rw[List.append_assoc,List.getElem?_append_left (by simp;omega)];simp[h1,show ¬m=i by omega]
 . by_cases h2:i=m
   . subst h2;rw[List.append_assoc,List.getElem?_append_right (by simp;omega)];simp[List.length_take,Nat.min_eq_left (Nat.le_of_lt h),h]
   . rw[List.append_assoc,List.getElem?_append_right (by simp;omega)];have e:i-min m L.length=(i-m-1)+1:=by omega
     simp only[List.length_map,List.length_take,e,List.cons_append,List.nil_append,List.getElem?_cons_succ,List.map_drop,List.getElem?_drop,List.getElem?_map,List.getElem?_set,show ¬m=i by omega,if_false];rw[show m+(0+1)+(i-m-1)=i by omega]
section
variable {t:Nat} {x y:an} {l:List aw} {pe:List AV} {lo:List (Nat×AV)} {hp:ab} {df wr:List Nat} {k:IntKind} {a b:Int} {Q:ah->Prop} {e:TypeId} {L:ae} {m:Nat}
theorem Ln {c:UInt8}(hx:(St.mk pe lo [some (.cells (aM L) e)] df).aa x=some (.ptr 0 m))(hy:(St.mk pe lo [some (.cells (aM L) e)] df).aa y=some (.int .u8 c.toNat))(hi:m<L.length)
 (h:WO M l ⟨⟨pe,lo,[some (.cells (aM (L.set m c)) e)],df⟩,0::wr⟩ Q):WO M (⟨.no,.store 1 x y,none⟩::l) ⟨⟨pe,lo,[some (.cells (aM L) e)],df⟩,wr⟩ Q:=by
 refine KX (c:=aM L) (new:=[.int .u8 c.toNat]) hx (by rw[hy];rfl) rfl ⟨rfl,by rw[ny];omega,rfl⟩ (EE hi) ?_;exact h
theorem WO.vv {n i j:Nat}{lo' hi':Option an}(hx:(St.mk pe lo [some (.cells (aM L) e)] df).aa x=some (.ptr 0 0))(hl:L.length=n)(hlo:((St.mk pe lo [some (.cells (aM L) e)] df).bS lo').bind (fun v=>aO v 0 j)=some i)(hhi:((St.mk pe lo [some (.cells (aM L) e)] df).bS hi').bind (fun v=>aO v n n)=some j)(hij:i<n)
 (h:WO M l ⟨⟨pe,(t,.sl 0 i (j-i) 1 (some (n-i)))::lo,[some (.cells (aM L) e)],df⟩,wr⟩ Q):WO M (⟨.l t,.fp n 1 x lo' hi',none⟩::l) ⟨⟨pe,lo,[some (.cells (aM L) e)],df⟩,wr⟩ Q:=by
 refine Kr (v:=.sl 0 i (j-i) 1 (some (n-i))) (h':=[some (.cells (aM L) e)]) (w':=[]) ?_ rfl rfl h;have h0:ab.at [some (aK.cells (aM L) e)] 0=some (.cells (aM L) e):=rfl;cases ho:(St.mk pe lo [some (.cells (aM L) e)] df).bS lo' with
 | none=>rw[ho]at hlo;simp at hlo
 | some v=>
  cases ho':(St.mk pe lo [some (.cells (aM L) e)] df).bS hi' with
  | none=>rw[ho']at hhi;simp at hhi
  | some v'=>
   rw[ho]at hlo;rw[ho']at hhi;simp only[Option.bind_some]at hlo hhi;simp only[aP,hx,ho,ho',h0,ny,hl,hhi,hlo,Nat.zero_add,Nat.mul_one];rw[if_pos (Nat.le_refl _),if_pos hij]
theorem LF {i j:Nat}{c:Option Nat}(hx:(St.mk pe lo [some (.cells (aM L) e)] df).aa x=some (.sl 0 i j 1 c))(hij:i+j<=L.length)
 (h:WO M l ⟨⟨pe,(t,.str ((L.drop i).take j))::lo,[some (.cells (aM L) e)],df⟩,wr⟩ Q):WO M (⟨.l t,.gQ x,none⟩::l) ⟨⟨pe,lo,[some (.cells (aM L) e)],df⟩,wr⟩ Q:=by
 refine Kr (v:=.str ((L.drop i).take j)) (h':=[some (.cells (aM L) e)]) (w':=[]) ?_ rfl rfl h;have h0:ab.at [some (aK.cells (aM L) e)] 0=some (.cells (aM L) e):=rfl;have hc:dz [some (.cells (aM L) e)] (.sl 0 i j 1 c)=some (aM ((L.drop i).take j),j):=by
  simp only[dz,h0,cut,Nat.mul_one];rw[if_pos (by rw[List.length_take,List.length_drop,ny];omega)];simp[aM,List.map_drop,List.map_take]
 simp only[aP,hx,hc,ny,vu];rw[if_pos (by simp;omega)]
theorem wrap32 {a:Int}(h:0<=a/\a<4294967296):IntKind.u32.wrap a=a:=by
 simp only[IntKind.wrap,IntKind.bits,IntKind.signed];simp;omega
theorem Ls (hx:(St.mk pe lo hp df).aa x=some (.int .u32 a))(hy:(St.mk pe lo hp df).aa y=some (.int .u32 b))(hr:0<=a+b/\a+b<4294967296)
 (h:WO M l ⟨⟨pe,(t,.int .u32 (a+b))::lo,hp,df⟩,wr⟩ Q):WO M (⟨.l t,.bin .add x y,none⟩::l) ⟨⟨pe,lo,hp,df⟩,wr⟩ Q:=
 Kd (v:=.int .u32 (a+b)) (by simp[aC,hx,hy,cf,wrap32 hr]) rfl h
theorem Lw (hx:(St.mk pe lo hp df).aa x=some (.int .u32 a))(hy:(St.mk pe lo hp df).aa y=some (.int .u32 b))(hr:0<=a*b/\a*b<4294967296)
 (h:WO M l ⟨⟨pe,(t,.int .u32 (a*b))::lo,hp,df⟩,wr⟩ Q):WO M (⟨.l t,.bin .mul x y,none⟩::l) ⟨⟨pe,lo,hp,df⟩,wr⟩ Q:=
 Kd (v:=.int .u32 (a*b)) (by simp[aC,hx,hy,cf,wrap32 hr]) rfl h
theorem Lx (hx:(St.mk pe lo hp df).aa x=some (.int .u32 a))(hy:(St.mk pe lo hp df).aa y=some (.int .u32 b))(ha:0<=a/\a<4294967296)(hb:0<b)
 (h:WO M l ⟨⟨pe,(t,.int .u32 (a/b))::lo,hp,df⟩,wr⟩ Q):WO M (⟨.l t,.bin .quo x y,none⟩::l) ⟨⟨pe,lo,hp,df⟩,wr⟩ Q:=by
 refine Kd (v:=.int .u32 (a/b)) ?_ rfl h;have h1:0<=a/b:=Int.ediv_nonneg ha.1 (Int.le_of_lt hb);have h2:a/b<=a:=Int.ediv_le_self _ ha.1;have h3:¬b=0:=by omega
 simp only[aC,hx,hy,cf,if_true,if_neg h3];rw[Int.tdiv_eq_ediv_of_nonneg ha.1,wrap32 ⟨h1,by omega⟩]
theorem Ly (hx:(St.mk pe lo hp df).aa x=some (.int .u32 a))(hy:(St.mk pe lo hp df).aa y=some (.int .u32 b))(ha:0<=a)(hb:0<b)
 (h:WO M l ⟨⟨pe,(t,.int .u32 (a%b))::lo,hp,df⟩,wr⟩ Q):WO M (⟨.l t,.bin .rem x y,none⟩::l) ⟨⟨pe,lo,hp,df⟩,wr⟩ Q:=by
 refine Kd (v:=.int .u32 (a%b)) ?_ rfl h;have h3:¬b=0:=by omega
 simp only[aC,hx,hy,cf,if_true,if_neg h3];rw[Int.tmod_eq_emod_of_nonneg ha]
theorem LG (hx:(St.mk pe lo hp df).aa x=some (.int k a))(hr:0<=a/\a<4294967296)(h:WO M l ⟨⟨pe,(t,.int .u32 a)::lo,hp,df⟩,wr⟩ Q):WO M (⟨.l t,.de .u32 x,none⟩::l) ⟨⟨pe,lo,hp,df⟩,wr⟩ Q:=
 Kd (v:=.int .u32 a) (by simp only[aC,hx,Option.bind_some,gR,wrap32 hr]) rfl h
theorem LS (hx:(St.mk pe lo hp df).aa x=some (.iV a))
 (h:WO M l ⟨⟨pe,(t,.iV (a/262144))::lo,hp,df⟩,wr⟩ Q):WO M (⟨.l t,.bin .shr x (.c (.int k 18)),none⟩::l) ⟨⟨pe,lo,hp,df⟩,wr⟩ Q:=by
 refine WO.op (WP.pure (v:=.iV (a/262144)) rfl ?_ h);have:a.fdiv (2^min (Int.toNat 18) IntKind.i64.bits)=a/262144:=by
  show a.fdiv 262144=a/262144;rw[Int.fdiv_eq_ediv_of_nonneg _ (by omega)]
 have e:(St.mk pe lo hp df).aa (.c (.int k 18))=some (.int k 18):=rfl;simp only[aC,hx,e,cf,this];rfl
end
theorem EG (hft:M.FT=FT)(x:Int)(hx:0<=x/\x<=64):aJ M 324 [.iV x] [] ⟨.iV (x*78913/262144),[],[]⟩:=by
 refine bq (by rw[hft];exact Ew) (by simp) ?_;unfold vm;simp only[enter];repeat' first|(apply LS;rfl)|apply Ke|apply aj|apply Kf|apply Kg|apply Ki|(apply Ll;rfl;rfl;omega)|(apply Kd;rfl;rfl)|(apply Kh;rfl;rfl)
 all_goals exact⟨.inr rfl,rfl,_,rfl,rfl,rfl⟩
theorem EH (hft:M.FT=FT)(x:Bool):aJ M 325 [.bool x] [] ⟨.iV (if x then 1 else 0),[],[]⟩:=by
 refine bq (by rw[hft];exact Ey) (by simp) ?_;unfold vn;simp only[enter];cases x;all_goals
 . repeat' first|apply Ke|apply aj|apply Kf|apply Kg|apply Ki|apply Kl|apply aF|(apply Kj;rfl)|(apply Kk;rfl)|(apply Kd;rfl;rfl)|(apply Kh;rfl;rfl)
   all_goals exact⟨.inr rfl,rfl,_,rfl,rfl,rfl⟩
theorem EI (bl:Fin 65):1<=bl.val->bl.val*78913/262144<20/\(bl.val*78913/262144=0\/10^(bl.val*78913/262144-1)<=2^(bl.val-1))/\2^bl.val<=10^(bl.val*78913/262144+1):=by
 revert bl;decide +kernel
def dM (d:Int):Nat:=if (10:Int)^(db d*78913/262144)<=d then db d*78913/262144+1 else db d*78913/262144
theorem qO {d:Nat}(h:0<d/\d<18446744073709551616):1<=dM d/\dM d<=20/\d<10^dM d/\(dM d=1\/10^(dM d-1)<=d):=by
 obtain⟨h1,h2,h3⟩:=uZ (x:=(d:Int)) (by omega);have h4:=vc (x:=(d:Int)) (n:=64) (by show (d:Int)<18446744073709551616;omega) (by omega);obtain⟨g0,g1,g2⟩:=EI ⟨db d,by omega⟩ h1;simp only at g0 g1 g2;have h2:2^(db (d:Int)-1)<=d:=by exact_mod_cast h2
 have h3:d<2^db (d:Int):=by exact_mod_cast h3
 unfold dM;obtain⟨n,hn⟩:∃n,n=db (d:Int)*78913/262144:=⟨_,rfl⟩;rw[←hn]at g0 g1 g2 ⊢;by_cases hc:(10:Int)^n<=d
 . rw[if_pos hc];have hc:10^n<=d:=by exact_mod_cast hc
   exact⟨by omega,by omega,by omega,.inr (by rw[Nat.add_sub_cancel];exact hc)⟩
 . rw[if_neg hc];have hc:d<10^n:=by
    rcases Nat.lt_or_ge d (10^n) with h|h
    . exact h
    . exact absurd (by exact_mod_cast h) hc
   have hn0:n≠0:=by
    rintro rfl;simp at hc;omega
   refine⟨by omega,by omega,hc,?_⟩;rcases g1 with g1|g1
   . omega
   . exact .inr (by omega)
def je:List AV:=[.uV (1),.uV (10),.uV (100),.uV (1000),.uV (10000),.uV (100000),.uV (1000000),.uV (10000000),.uV (100000000),.uV (1000000000),.uV (10000000000),.uV (100000000000),.uV (1000000000000),.uV (10000000000000),.uV (100000000000000),.uV (1000000000000000),.uV (10000000000000000),.uV (100000000000000000),.uV (1000000000000000000),.uV (10000000000000000000)]
theorem EJ:∀k:Nat,k<20->partOf (je.drop (k*1)) 0 1 false=some (.uV (10^k))
 | 0,_=>rfl|1,_=>rfl|2,_=>rfl|3,_=>rfl|4,_=>rfl|5,_=>rfl|6,_=>rfl|7,_=>rfl|8,_=>rfl|9,_=>rfl
 | 10,_=>rfl|11,_=>rfl|12,_=>rfl|13,_=>rfl|14,_=>rfl|15,_=>rfl|16,_=>rfl|17,_=>rfl|18,_=>rfl|19,_=>rfl
 | k+20,h=>by omega
theorem LU {t:Nat}{i:an}{l:List aw}{pe:List AV}{lo:List (Nat×AV)}{hp:ab}{df wr:List Nat}{k:IntKind}{n:Int}{Q:ah->Prop}(hy:(St.mk pe lo hp df).aa i=some (.int k n))(hb:0<=n/\n<20)
 (h:WO M l ⟨⟨pe,(t,.vp (je.drop (n.toNat*1)))::lo,hp,df⟩,wr⟩ Q):WO M (⟨.l t,.ee (some 20) 1 (.c (.vp je)) i,none⟩::l) ⟨⟨pe,lo,hp,df⟩,wr⟩ Q:=
 WO.op (WP.pure (v:=.vp (je.drop (n.toNat*1))) rfl (by
  have e:(St.mk pe lo hp df).aa (.c (.vp je))=some (.vp je):=rfl;have h2:0<=n/\n<((20:Nat):Int):=hb;simp only[aC,e,hy,iA,if_pos h2]) h)
theorem LV {t:Nat}{x:an}{l:List aw}{pe:List AV}{lo:List (Nat×AV)}{hp:ab}{df wr:List Nat}{n:Nat}{Q:ah->Prop}(hx:(St.mk pe lo hp df).aa x=some (.vp (je.drop (n*1))))(hb:n<20)
 (h:WO M l ⟨⟨pe,(t,.uV (10^n))::lo,hp,df⟩,wr⟩ Q):WO M (⟨.l t,.load 1 false x,none⟩::l) ⟨⟨pe,lo,hp,df⟩,wr⟩ Q:=
 Kr (v:=.uV (10^n)) (h':=hp) (w':=[]) (by simp only[aP,hx,Option.bind_some,dO,EJ n hb]) rfl rfl h
structure vz (M:au):Prop where
 ft:M.FT=FT
 vA:∀(x:Int) h,(0<=x/\x<18446744073709551616)->M.ext 240 [.uV x] h=some ⟨.iV (db x),h,[]⟩
 vB:∀(x:Int) h,(0<=x/\x<=64)->M.ext 324 [.iV x] h=some ⟨.iV (x*78913/262144),h,[]⟩
 qP:∀(x:Bool) h,M.ext 325 [.bool x] h=some ⟨.iV (if x then 1 else 0),h,[]⟩
theorem EM (C:vz M)(d:Int)(hd:0<d/\d<18446744073709551616):aJ M 305 [.uV d] [] ⟨.iV (dM d),[],[]⟩:=by
 have h4:=vc (x:=d) (n:=64) (by exact hd.2) (by omega);have q240:=fun h=>C.vA d h ⟨by omega,hd.2⟩
 have q324:=fun h=>C.vB (db d) h ⟨by omega,by omega⟩
 have q325a:=fun h=>C.qP true h
 have q325b:=fun h=>C.qP false h
 simp only[if_true]at q325a;simp only[Bool.false_eq_true,if_false]at q325b;obtain⟨n,hn⟩:∃n,n=db d*78913/262144:=⟨_,rfl⟩;have e1:((db d:Int)*78913/262144)=(n:Int):=by rw[hn];omega
 rw[e1]at q324;have hn20:n<20:=by omega
 have e2:dM d=if (10:Int)^n<=d then n+1 else n:=by unfold dM;rw[←hn]
 rw[e2];refine bq (by rw[C.ft];exact Eu) (by simp) ?_;unfold vk;simp only[enter];repeat' first|(apply LU;rfl;omega)|(apply LV (n:=n);rfl;exact hn20)|apply Ke|apply aj|apply Kf|apply Kg|apply Ki|(apply KJ;rfl;rfl)|(apply KC;rfl;rfl;omega)|(apply Km;rfl;rfl;first|exact q240 _|exact q324 _|exact q325a _|exact q325b _)|(apply Kd;rfl;rfl)|(apply Kh;rfl;rfl)|(intro _;omega)|intro _
 all_goals try omega
 . rename_i h1;rw[if_pos h1];exact⟨.inr rfl,rfl,_,rfl,rfl,rfl⟩
 . rename_i h1;rw[if_neg (by omega)];exact⟨.inr rfl,rfl,_,rfl,by simp[dh],rfl⟩
def fk:ae:=[48,48,48,49,48,50,48,51,48,52,48,53,48,54,48,55,48,56,48,57,49,48,49,49,49,50,49,51,49,52,49,53,49,54,49,55,49,56,49,57,50,48,50,49,50,50,50,51,50,52,50,53,50,54,50,55,50,56,50,57,51,48,51,49,51,50,51,51,51,52,51,53,51,54,51,55,51,56,51,57,52,48,52,49,52,50,52,51,52,52,52,53,52,54,52,55,52,56,52,57,53,48,53,49,53,50,53,51,53,52,53,53,53,54,53,55,53,56,53,57,54,48,54,49,54,50,54,51,54,52,54,53,54,54,54,55,54,56,54,57,55,48,55,49,55,50,55,51,55,52,55,53,55,54,55,55,55,56,55,57,56,48,56,49,56,50,56,51,56,52,56,53,56,54,56,55,56,56,56,57,57,48,57,49,57,50,57,51,57,52,57,53,57,54,57,55,57,56,57,57]
theorem nA:fk.length=200:=by decide +kernel
theorem vC:∀x:Fin 100,fk[x.val*2]! = dn (x.val/10)/\fk[x.val*2+1]! = dn (x.val%10):=by decide +kernel
theorem EN {x:Int}(h:0<=x/\x<100):fk[(x*2).toNat]! = dn (x.toNat/10):=by
 obtain⟨k,rfl⟩:=Int.eq_ofNat_of_zero_le h.1;have:=(vC ⟨k,by omega⟩).1;rw[show ((k:Int)*2).toNat=k*2 by omega];exact this
theorem EO {x:Int}(h:0<=x/\x<100):fk[(x*2+1).toNat]! = dn (x.toNat%10):=by
 obtain⟨k,rfl⟩:=Int.eq_ofNat_of_zero_le h.1;have:=(vC ⟨k,by omega⟩).2;rw[show ((k:Int)*2+1).toNat=k*2+1 by omega];exact this
def nB:ae:=[48,49,50,51,52,53,54,55,56,57,97,98,99,100,101,102,103,104,105,106,107,108,109,110,111,112,113,114,115,116,117,118,119,120,121,122]
theorem EP:∀x:Fin 10,(nB.drop x.val).take (x.val+1-x.val)=aH x.val:=by
 intro x;rw[iu x.isLt];revert x;decide +kernel
theorem ES:∀x:Fin 100,10<=x.val->(fk.drop (x.val*2)).take (x.val*2+2-x.val*2)=aH x.val:=by
 intro x h;rw[jc (by omega),iu (by omega)];revert x;decide +kernel
theorem LH {t:Nat}{x y z:an}{l:List aw}{pe:List AV}{lo:List (Nat×AV)}{hp:ab}{df wr:List Nat}{k k':IntKind}{s:ae}{a b:Int}{Q:ah->Prop}(hx:(St.mk pe lo hp df).aa x=some (.str s))(hy:(St.mk pe lo hp df).aa y=some (.int k a))(hz:(St.mk pe lo hp df).aa z=some (.int k' b))(hb:0<=a/\a<=b/\b<=s.length){r:ae}(hr:(s.drop a.toNat).take (b.toNat-a.toNat)=r)
 (h:WO M l ⟨⟨pe,(t,.str r)::lo,hp,df⟩,wr⟩ Q):WO M (⟨.l t,.slice .str 1 x (some y) (some z) none,none⟩::l) ⟨⟨pe,lo,hp,df⟩,wr⟩ Q:=by
 subst hr;refine Kd (v:=.str ((s.drop a.toNat).take (b.toNat-a.toNat))) ?_ rfl h;simp only[aC,hx,St.bS,hy,hz,Option.map_some,gz,aO];have h1:0<=b/\b<=((s.length:Nat):Int):=⟨by omega,hb.2.2⟩;have h2:0<=a/\a<=((b.toNat:Nat):Int):=⟨hb.1,by omega⟩;simp only[if_pos h1,if_pos h2];rfl
set_option maxRecDepth 100000 in
theorem ET (hft:M.FT=FT)(n:Nat)(hn:n<100):aJ M 304 [.iV n] [] ⟨.str (aH n),[],[]⟩:=by
 have e1:(n:Int).toNat=n:=rfl;refine bq (by rw[hft];exact Es) (by simp) ?_;unfold vi;simp only[enter];by_cases h:n<10
 . have hc:(nB.drop (n:Int).toNat).take (((n:Int)+1).toNat-(n:Int).toNat)=aH n:=by rw[show ((n:Int)+1).toNat=n+1 by omega];exact EP ⟨n,h⟩
   have l1:nB.length=36:=rfl;repeat' first|(apply LH (s:=nB);rfl;rfl;rfl;omega;exact hc)|apply Ke|apply aj|apply Kf|apply Kg|apply Ki|apply aF|(apply Kj;rfl)|(apply Kz;rfl;rfl)|(apply KC;rfl;rfl;omega)|(apply Kd;rfl;rfl)|(apply Kh;rfl;rfl)|(intro _;omega)|intro _
   all_goals try omega
   all_goals exact⟨.inr rfl,rfl,_,rfl,rfl,rfl⟩
 . have hc:(fk.drop ((n:Int)*2).toNat).take (((n:Int)*2+2).toNat-((n:Int)*2).toNat)=aH n:=by rw[show ((n:Int)*2+2).toNat=n*2+2 by omega,show ((n:Int)*2).toNat=n*2 by omega];exact ES ⟨n,hn⟩ (by simp only;omega)
   have l1:=nA;repeat' first|(apply LH (s:=fk);rfl;rfl;rfl;omega;exact hc)|apply Ke|apply aj|apply Kf|apply Kg|apply Ki|apply Kl|(apply Kk;rfl)|(apply Kz;rfl;rfl)|(apply KC;rfl;rfl;omega)|(apply Ll;rfl;rfl;omega)|(apply Kd;rfl;rfl)|(apply Kh;rfl;rfl)|(intro _;omega)|intro _
   all_goals try omega
   all_goals exact⟨.inr rfl,rfl,_,rfl,rfl,rfl⟩
def dw (L:ae)(off n i u:Nat):Prop:=L.length=24/\∀j,i<=j->j<n->L[off+j]! = dn (u/10^(n-1-j)%10)
theorem qQ {L:ae}{i k:Nat}{v:UInt8}(h:i<L.length):(L.set i v)[k]! = if k=i then v else L[k]! := by
 simp only[List.getElem!_eq_getElem?_getD,List.getElem?_set];by_cases hk:k=i
 . subst hk;simp[h]
 . simp[hk,show ¬i=k from fun e=>hk e.symm]
theorem dw.two {L:ae}{off n i u:Nat}{a b:Nat}{c d:UInt8}(h:dw L off n (i+2) u)(hn:off+n<=24)(hi:i+2<=n)(ha:a=off+i+1)(hb:b=off+i)(hc:c=dn (u/10^(n-(i+2))%10))(hd:d=dn (u/10^(n-(i+2))/10%10)):dw ((L.set a c).set b d) off n i u:=by
 subst ha;subst hb;refine⟨by simp[h.1],fun j h1 h2=>?_⟩;rw[qQ (by rw[List.length_set,h.1];omega),qQ (by rw[h.1];omega)];by_cases e1:j=i
 . subst e1;rw[if_pos rfl,hd,Nat.div_div_eq_div_mul,←Nat.pow_succ,show (n-(j+2)).succ=n-1-j by omega]
 . by_cases e2:j=i+1
   . subst e2;rw[if_neg (by omega),if_pos (by omega),hc,show n-(i+2)=n-1-(i+1) by omega]
   . rw[if_neg (by omega),if_neg (by omega)];exact h.2 j (by omega) h2
theorem dw.fin {L:ae}{off n u:Nat}(h:dw L off n 0 u)(hn:off+n<=24):(L.drop off).take n=bg n u:=by
 refine EA (by rw[List.length_take,List.length_drop,h.1];omega) fun j hj=>?_
 rw[←h.2 j (Nat.zero_le _) hj];simp only[List.getElem!_eq_getElem?_getD,List.getElem?_take,if_pos hj,List.getElem?_drop]
variable {e:TypeId}
theorem jf {u n j:Nat}(hj:j+2<=n):u/10^(n-j)=u/10^(n-(j+2))/100:=by
 rw[Nat.div_div_eq_div_mul,show (100:Nat)=10^2 by rfl,←Nat.pow_add,show n-(j+2)+2=n-j by omega]
theorem dw.iw {L:ae}{off n i u U:Nat}{a b:Nat}{x y:Int}(h:dw L off n (i+2) u)(hn:off+n<=24)(hi:i+2<=n)(hU:U=u/10^(n-(i+2)))(ha:a=off+i+1)(hb:b=off+i)(hx:x=(U%100:Nat)*2+1)(hy:y=(U%100:Nat)*2):dw ((L.set a fk[x.toNat]!).set b fk[y.toNat]!) off n i u:=by
 subst hx;subst hy;refine h.two hn hi ha hb ?_ ?_
 . rw[EO (by omega),←hU];congr 1;omega
 . rw[EN (by omega),←hU];congr 1;omega
set_option maxRecDepth 100000 in
theorem EU (off n u0:Nat)(hn:off+n<=24)(hu:u0<18446744073709551616){Q:Ex->ah->Prop}(a10 a11 a12 a13 a14:AV)
 (hQ:∀L i a3 a4 a5 a6 a7 a8 a9 lo wr,i<=n->i<8->dw L off n i u0->eb 0 wr->Q (.exit 0) ⟨⟨[.sl 0 off n 1 cap,.uV ((u0/10^(n-i):Nat):Int),.iV (i:Nat),a3,a4,a5,a6,a7,a8,a9,a10,a11,a12,a13,a14],lo,[some (.cells (aM L) e)],[]⟩,wr⟩)
 (L:ae) (i:Nat) (a3 a4 a5 a6 a7 a8 a9:AV) (lo:List (Nat×AV)) (wr:List Nat) (hi:i<=n) (hL:dw L off n i u0) (hw:eb 0 wr) :
 W M (.loop nt) ⟨⟨[.sl 0 off n 1 cap,.uV ((u0/10^(n-i):Nat):Int),.iV (i:Nat),a3,a4,a5,a6,a7,a8,a9,a10,a11,a12,a13,a14],lo,[some (.cells (aM L) e)],[]⟩,wr⟩ Q:=by
 refine W.uz (fun m s=>∃L U iv a3 a4 a5 a6 a7 a8 a9 lo wr,s=⟨⟨[.sl 0 off n 1 cap,.uV U,.iV iv,a3,a4,a5,a6,a7,a8,a9,a10,a11,a12,a13,a14],lo,[some (.cells (aM L) e)],[]⟩,wr⟩/\U=((u0/10^(n-m):Nat):Int)/\iv=(m:Int)/\m<=n/\dw L off n m u0/\eb 0 wr)
  (fun m s ⟨L,U,iv,a3,a4,a5,a6,a7,a8,a9,lo,wr,hs,hU,hiv,hm,hL,hw⟩=>?_) (m:=i) ⟨L,_,_,a3,a4,a5,a6,a7,a8,a9,lo,wr,rfl,rfl,rfl,hi,hL,hw⟩
 subst hs;subst hU;subst hiv;have hl:=hL.1;have sl:=nA;have hUle:u0/10^(n-m)<=u0:=Nat.div_le_self _ _;by_cases h8:m<8
 . unfold nt;repeat' first|apply Ke|apply aj|apply Kf|apply Kg|apply Kx|apply bX|apply cU|(apply Kk;rfl)|(apply KJ;rfl;rfl)|(apply Kd;rfl;rfl)|(intro _;omega)|intro _
   all_goals try omega
   all_goals exact hQ _ _ _ _ _ _ _ _ _ _ _ hm h8 hL hw
 . obtain⟨j,rfl⟩:∃j,m=j+8:=⟨m-8,by omega⟩;have s1:=jf (u:=u0) (n:=n) (j:=j+6) (by omega);have s2:=jf (u:=u0) (n:=n) (j:=j+4) (by omega);have s3:=jf (u:=u0) (n:=n) (j:=j+2) (by omega);have s4:=jf (u:=u0) (n:=n) (j:=j) (by omega);obtain⟨U,hU⟩:∃U,U=u0/10^(n-(j+8)):=⟨_,rfl⟩;rw[show j+6+2=j+8 by omega,←hU]at s1;rw[show j+4+2=j+6 by omega,s1]at s2;rw[show j+2+2=j+4 by omega,s2]at s3;rw[s3]at s4;rw[←hU]at hUle ⊢;unfold nt;repeat' first|(apply Ln;rfl;rfl;(first|omega|(simp only[List.length_set];omega)))|(apply LO;rfl;rfl;omega;omega)|(apply LN;rfl;rfl;omega;omega)|(apply LG;rfl;omega)|(apply Lx;rfl;rfl;omega;omega)|(apply Ly;rfl;rfl;omega;omega)|(apply Lw;rfl;rfl;omega)|(apply Ls;rfl;rfl;omega)|(apply KP (s:=fk);rfl;rfl;omega)|apply Ke|apply aj|apply Kf|apply Kg|apply Kn|apply Kl|apply bn|apply KE|apply KH|(apply KI;rfl)|(apply Lf;rfl;(first|(simp only[nca];rfl)|rfl);(first|(simp only[nca];rfl)|rfl))|(apply Kj;rfl)|(apply KJ;rfl;rfl)|(apply KU;rfl;rfl;omega)|(apply KZ;rfl;rfl;omega)|(apply Kd;rfl;rfl)|(apply Kh;rfl;rfl)|(intro _;omega)|intro _
   all_goals try omega
   refine uy ⟨j,by omega,_,_,_,_,_,_,_,_,_,_,_,_,rfl,?_,?_,by omega,?_,?_⟩
   . rw[s4];omega
   . omega
   . have g1:=dw.iw (L:=L) (i:=j+6) (U:=U) (a:=off+(((j+8:Nat):Int)-1).toNat*1) (b:=off+(((j+8:Nat):Int)-2).toNat*1) hL hn (by omega) hU (by omega) (by omega) rfl rfl;refine dw.iw (U:=U/100/100/100) (dw.iw (i:=j+2) (U:=U/100/100) (dw.iw (i:=j+4) (U:=U/100) (dw.iw (i:=j+6) (U:=U) hL hn (by omega) hU ?_ ?_ ?_ ?_) hn (by omega) s1.symm ?_ ?_ ?_ ?_) hn (by omega) s2.symm ?_ ?_ ?_ ?_) hn (by omega) s3.symm ?_ ?_ ?_ ?_;all_goals omega
   . exact .cons (.cons (.cons (.cons (.cons (.cons (.cons (.cons hw)))))))
set_option maxRecDepth 100000
def ly:ao:=
 .seq (
       .region [zm 160 2,
         zc 161 .gtr 160 0])
       (
        .cond (.l 161)
        (.region [zm 162 0,
          zm 163 10,
          ⟨(.l 164),.bin .add (kW 48) (.l 163),none⟩,
          ⟨(.l 165),.de .u8 (.l 164),none⟩,
          ⟨(.l 166),.ee none 1 (.l 162) (kI 0),none⟩,
          zS 1 166 165])
        (.skip))
def nC:ao:=
 .seq (
       .region [zm 138 2,
         zc 139 .geq 138 2])
       (
        .cond (.l 139)
        (
         zR [zm 140 10,
           ⟨(.l 141),.bin .rem (.l 140) (kW 100),none⟩,
           ⟨(.l 142),.bin .mul (.l 141) (kW 2),none⟩,
           zw 14 142]
         (
          zR [zm 143 10,
            ⟨(.l 144),.bin .quo (.l 143) (kW 100),none⟩,
            zw 10 144]
          (
           .seq (.draw [(zm 145 0,[]),
             (zm 146 2,[0]),
             (zc 147 .sub 146 1,[0]),
             (zm 148 0,[0,1,2]),
             (zm 149 2,[0,1,2,3]),
             (zc 150 .sub 149 2,[0,1,2,3]),
             (zm 151 14,[0,1,2,3,4,5]),
             (⟨(.l 152),.bin .add (.l 151) (kW 1),none⟩,[0,1,2,3,4,5]),
             (⟨(.l 153),.index (.c (.str zD2)) (.l 152),none⟩,[0,1,2,3,4,5]),
             (zm 154 14,[0,1,2,3,4,5,6,7,8]),
             (⟨(.l 155),.index (.c (.str zD2)) (.l 154),none⟩,[0,1,2,3,4,5,6,7,8]),
             (za 156 1 145 147,[3,4,5,9,10]),
             (zS 1 156 153,[3,4,5,9,10]),
             (za 157 1 148 150,[]),
             (zS 1 157 155,[])])
           (.region [zm 158 2,
             zc 159 .sub 158 2,
             zw 2 159]))))
        (.skip))
def qR:ao:=
 zR [zm 98 2,
        zc 99 .geq 98 4]
      (
       .cond (.l 99)
       (
        zR [zm 100 10,
          ⟨(.l 101),.bin .rem (.l 100) (kW 10000),none⟩,
          zw 11 101]
        (
         zR [zm 102 10,
           ⟨(.l 103),.bin .quo (.l 102) (kW 10000),none⟩,
           zw 10 103]
         (
          zR [zm 104 11,
            ⟨(.l 105),.bin .quo (.l 104) (kW 100),none⟩,
            ⟨(.l 106),.bin .mul (.l 105) (kW 2),none⟩,
            zm 107 11,
            ⟨(.l 108),.bin .rem (.l 107) (kW 100),none⟩,
            ⟨(.l 109),.bin .mul (.l 108) (kW 2),none⟩,
            zw 12 106,
            zw 13 109]
          (
           .seq (.draw [(zm 110 0,[]),
             (zm 111 2,[0]),
             (zc 112 .sub 111 1,[0]),
             (zm 113 0,[0,1,2]),
             (zm 114 2,[0,1,2,3]),
             (zc 115 .sub 114 2,[0,1,2,3]),
             (zm 116 13,[0,1,2,3,4,5]),
             (⟨(.l 117),.bin .add (.l 116) (kW 1),none⟩,[0,1,2,3,4,5]),
             (⟨(.l 118),.index (.c (.str zD2)) (.l 117),none⟩,[0,1,2,3,4,5]),
             (zm 119 13,[0,1,2,3,4,5,6,7,8]),
             (⟨(.l 120),.index (.c (.str zD2)) (.l 119),none⟩,[0,1,2,3,4,5,6,7,8]),
             (za 121 1 110 112,[3,4,5,9,10]),
             (zS 1 121 118,[3,4,5,9,10]),
             (za 122 1 113 115,[]),
             (zS 1 122 120,[])])
           (
            .seq (.draw [(zm 123 0,[]),
              (zm 124 2,[0]),
              (zc 125 .sub 124 3,[0]),
              (zm 126 0,[0,1,2]),
              (zm 127 2,[0,1,2,3]),
              (zc 128 .sub 127 4,[0,1,2,3]),
              (zm 129 12,[0,1,2,3,4,5]),
              (⟨(.l 130),.bin .add (.l 129) (kW 1),none⟩,[0,1,2,3,4,5]),
              (⟨(.l 131),.index (.c (.str zD2)) (.l 130),none⟩,[0,1,2,3,4,5]),
              (zm 132 12,[0,1,2,3,4,5,6,7,8]),
              (⟨(.l 133),.index (.c (.str zD2)) (.l 132),none⟩,[0,1,2,3,4,5,6,7,8]),
              (za 134 1 123 125,[3,4,5,9,10]),
              (zS 1 134 131,[3,4,5,9,10]),
              (za 135 1 126 128,[]),
              (zS 1 135 133,[])])
            (.region [zm 136 2,
              zc 137 .sub 136 4,
              zw 2 137]))))))
       (.skip))
theorem EV {g N:Nat}{ar:List Nat}{body:ao}{ars:List AV}{L:ae}{P:ae->Prop}(hft:M.FT g=some ⟨N,ar,[],body⟩)(hN:ars.length<=N)
 (hW:W M body ⟨⟨ar.map (fun t=>(ars[t]?).getD aW),[],[some (.cells (aM L) e)],[]⟩,[]⟩ fun x s=>(x = .normal\/x = .ret)/\s.s.bC=[]/\∃L',s.s.hp=[some (.cells (aM L') e)]/\eb 0 s.wr/\P L') :
 ∃L' wr,eb 0 wr/\P L'/\aJ M g ars [some (.cells (aM L) e)] ⟨.aq [],[some (.cells (aM L') e)],wr⟩:=by
 obtain⟨⟨n,x,s,h1,h2,h3,L',h4,h5,h6⟩⟩:=hW;have hb:0<([some (.cells (aM L) e)]:ab).length:=Nat.zero_lt_one;have hh:s.s.hp=ab.put [some (.cells (aM L) e)] 0 (some (.cells (aM L') e)):=h4;obtain⟨wr,hw,hr⟩:=Cs (c0:=aM L) hb hh h5 (vt L');exact⟨L',wr,hw,h6,lf hft hN ⟨⟨n,x,s,h1,h2,h3,[],rfl,hr⟩⟩⟩
def qS (e:TypeId)(off n u0:Nat)(x:Ex)(s:ah):Prop:=(x = .normal\/x = .ret)/\s.s.bC=[]/\∃L',s.s.hp=[some (.cells (aM L') e)]/\eb 0 s.wr/\dw L' off n 0 u0
theorem nD {u n i:Nat}(h:u<10^n)(hi:i<=n):u/10^(n-i)<10^i:=by
 refine Nat.div_lt_of_lt_mul ?_;rw[←Nat.pow_add,show n-i+i=n by omega];exact h
def qT (L:ae)(off n u0:Nat)(k:Nat)(iv U:Int)(wr:List Nat):Prop:=∃i:Nat,i<k/\i<=n/\iv=(i:Int)/\U=((u0/10^(n-i):Nat):Int)/\dw L off n i u0/\eb 0 wr
theorem vE {off n u0:Nat}(hn:off+n<=24)(hlt:u0<10^n){L:ae}{iv U:Int}{a1 a3 a4 a5 a6 a7 a8 a9 a11 a12 a13 a14:AV}{lo:List (Nat×AV)}{wr:List Nat}(h:qT L off n u0 2 iv U wr) :
 W M ly ⟨⟨[.sl 0 off n 1 cap,a1,.iV iv,a3,a4,a5,a6,a7,a8,a9,.int .u32 U,a11,a12,a13,a14],lo,[some (.cells (aM L) e)],[]⟩,wr⟩ (qS e off n u0):=by
 obtain⟨i,hi,hin,rfl,hU,hL,hw⟩:=h;have hl:=hL.1;have hr:=nD hlt hin;obtain⟨V,hV⟩:∃V,V=u0/10^(n-i):=⟨_,rfl⟩;rw[←hV]at hU hr;subst hU;by_cases h1:i=1
 . subst h1;have hV10:V<10:=by simpa using hr
   have hd:(dn V).toNat=48+V:=jY hV10;unfold ly;repeat' first|(apply Ln (c:=dn V);rfl;exact(congrArg (fun z:Int=>some (AV.int .u8 z)) (show (48+(V:Int))%256=((dn V).toNat:Int) by rw[hd];omega));omega)|(apply Ls;rfl;rfl;omega)|(apply LD;rfl)|apply Ke|apply aj|apply Kf|apply Kg|(apply Kj;rfl)|(apply Ku;rfl;rfl)|(apply KZ;rfl;rfl;omega)|(apply Kd;rfl;rfl)|(intro _;omega)|intro _
   all_goals try omega
   refine⟨.inl rfl,rfl,_,rfl,.cons hw,by simp[hl],fun j h1 h2=>?_⟩;rw[qQ (by omega)];by_cases hj:j=0
   . subst hj;rw[if_pos (by omega),show n-1-0=n-1 by omega,←hV,Nat.mod_eq_of_lt hV10]
   . rw[if_neg (by omega)];exact hL.2 j (by omega) h2
 . obtain rfl:i=0:=by omega
   unfold ly;repeat' first|apply Ke|apply aj|apply Kf|apply Kg|apply Kl|(apply Kk;rfl)|(apply Ku;rfl;rfl)|(apply Kd;rfl;rfl)|(intro _;omega)|intro _
   all_goals try omega
   exact⟨.inl rfl,rfl,_,rfl,hw,hL⟩
theorem vF {off n u0:Nat}(hn:off+n<=24)(hlt:u0<10^n){L:ae}{iv U:Int}{a1 a3 a4 a5 a6 a7 a8 a9 a11 a12 a13 a14:AV}{lo:List (Nat×AV)}{wr:List Nat}(h:qT L off n u0 4 iv U wr) :
 W M (.seq nC ly) ⟨⟨[.sl 0 off n 1 cap,a1,.iV iv,a3,a4,a5,a6,a7,a8,a9,.int .u32 U,a11,a12,a13,a14],lo,[some (.cells (aM L) e)],[]⟩,wr⟩ (qS e off n u0):=by
 obtain⟨i,hi,hin,rfl,hU,hL,hw⟩:=h;have hl:=hL.1;have sl:=nA;have hr:=nD hlt hin;by_cases h1:2<=i
 . obtain⟨j,rfl⟩:∃j,i=j+2:=⟨i-2,by omega⟩;have s1:=jf (u:=u0) (n:=n) (j:=j) hin;obtain⟨V,hV⟩:∃V,V=u0/10^(n-(j+2)):=⟨_,rfl⟩;rw[←hV]at hU hr s1;have hV4:V<10000:=Nat.lt_of_lt_of_le hr (Nat.le_trans (Nat.pow_le_pow_right (by decide) (show j+2<=4 by omega)) (by decide));subst hU;unfold nC;repeat' first|(apply vE hn hlt)|(apply Ln;rfl;rfl;(first|omega|(simp only[List.length_set];omega)))|(apply Lx;rfl;rfl;omega;omega)|(apply Ly;rfl;rfl;omega;omega)|(apply Lw;rfl;rfl;omega)|(apply Ls;rfl;rfl;omega)|(apply KP (s:=fk);rfl;rfl;omega)|apply Ke|apply aj|apply Kf|apply Kg|apply KE|apply KH|(apply KI;rfl)|(apply Lf;rfl;(first|(simp only[nca];rfl)|rfl);(first|(simp only[nca];rfl)|rfl))|(apply Kj;rfl)|(apply KJ;rfl;rfl)|(apply KU;rfl;rfl;omega)|(apply KZ;rfl;rfl;omega)|(apply Kd;rfl;rfl)|(apply Kh;rfl;rfl)|(intro _;omega)|intro _
   all_goals try omega
   refine⟨j,by omega,by omega,by omega,by rw[s1];omega,?_,.cons (.cons hw)⟩;refine dw.iw (U:=V) hL hn (by omega) hV ?_ ?_ ?_ ?_;all_goals omega
 . unfold nC;repeat' first|(apply vE hn hlt)|apply Ke|apply aj|apply Kf|apply Kg|apply Kl|(apply Kk;rfl)|(apply KJ;rfl;rfl)|(apply Kd;rfl;rfl)|(intro _;omega)|intro _
   all_goals try omega
   exact⟨i,by omega,hin,rfl,hU,hL,hw⟩
theorem EW {off n u0:Nat}(hn:off+n<=24)(hlt:u0<10^n){L:ae}{iv U:Int}{a1 a3 a4 a5 a6 a7 a8 a9 a11 a12 a13 a14:AV}{lo:List (Nat×AV)}{wr:List Nat}(h:qT L off n u0 8 iv U wr) :
 W M (.seq qR (.seq nC ly)) ⟨⟨[.sl 0 off n 1 cap,a1,.iV iv,a3,a4,a5,a6,a7,a8,a9,.int .u32 U,a11,a12,a13,a14],lo,[some (.cells (aM L) e)],[]⟩,wr⟩ (qS e off n u0):=by
 obtain⟨i,hi,hin,rfl,hU,hL,hw⟩:=h;have hl:=hL.1;have sl:=nA;have hr:=nD hlt hin;by_cases h1:4<=i
 . obtain⟨j,rfl⟩:∃j,i=j+4:=⟨i-4,by omega⟩;have s1:=jf (u:=u0) (n:=n) (j:=j+2) (by omega);have s2:=jf (u:=u0) (n:=n) (j:=j) (by omega);obtain⟨V,hV⟩:∃V,V=u0/10^(n-(j+4)):=⟨_,rfl⟩;rw[show j+2+2=j+4 by omega,←hV]at s1;rw[s1]at s2;rw[←hV]at hU hr;have hV8:V<100000000:=Nat.lt_of_lt_of_le hr (Nat.le_trans (Nat.pow_le_pow_right (by decide) (show j+4<=8 by omega)) (by decide));subst hU;unfold qR;repeat' first|(apply vF hn hlt)|(apply Ln;rfl;rfl;(first|omega|(simp only[List.length_set];omega)))|(apply Lx;rfl;rfl;omega;omega)|(apply Ly;rfl;rfl;omega;omega)|(apply Lw;rfl;rfl;omega)|(apply Ls;rfl;rfl;omega)|(apply KP (s:=fk);rfl;rfl;omega)|apply Ke|apply aj|apply Kf|apply Kg|apply KE|apply KH|(apply KI;rfl)|(apply Lf;rfl;(first|(simp only[nca];rfl)|rfl);(first|(simp only[nca];rfl)|rfl))|(apply Kj;rfl)|(apply KJ;rfl;rfl)|(apply KU;rfl;rfl;omega)|(apply KZ;rfl;rfl;omega)|(apply Kd;rfl;rfl)|(apply Kh;rfl;rfl)|(intro _;omega)|intro _
   all_goals try omega
   refine⟨j,by omega,by omega,by omega,by rw[s2];omega,?_,.cons (.cons (.cons (.cons hw)))⟩;refine dw.iw (U:=V/100) (dw.iw (i:=j+2) (U:=V) hL hn (by omega) hV ?_ ?_ ?_ ?_) hn (by omega) s1.symm ?_ ?_ ?_ ?_;all_goals omega
 . unfold qR;repeat' first|(apply vF hn hlt)|apply Ke|apply aj|apply Kf|apply Kg|apply Kl|(apply Kk;rfl)|(apply KJ;rfl;rfl)|(apply Kd;rfl;rfl)|(intro _;omega)|intro _
   all_goals try omega
   exact⟨i,by omega,hin,rfl,hU,hL,hw⟩
theorem EX (hft:M.FT=FT)(off n u0:Nat)(hn:off+n<=24)(hlt:u0<10^n)(hu:u0<18446744073709551616)(L:ae)(hL:L.length=24) :
 ∃L' wr,eb 0 wr/\dw L' off n 0 u0/\aJ M 306 [.sl 0 off n 1 cap,.uV (u0:Nat)] [some (.cells (aM L) e)] ⟨.aq [],[some (.cells (aM L') e)],wr⟩:=by
 refine EV (P:=fun L'=>dw L' off n 0 u0) (by rw[hft];exact Ev) (by simp) ?_;have lp:=fun Q a10 a11 a12 a13 a14 hQ a3 a4 a5 a6 a7 a8 a9 lo wr=>EU (M:=M) (cap:=cap) (e:=e) off n u0 hn hu (Q:=Q) a10 a11 a12 a13 a14 hQ L n a3 a4 a5 a6 a7 a8 a9 lo wr (Nat.le_refl _) ⟨hL,fun j h1 h2=>by omega⟩
 simp only[Nat.sub_self,Nat.pow_zero,Nat.div_one]at lp;unfold vl;simp only[enter];repeat' first|apply Ke|apply aj|apply Kf|apply Kg|apply Kn|(apply Kd;rfl;rfl)|(apply Kh;rfl;rfl)
 refine lp _ _ _ _ _ _ (fun L i a3 a4 a5 a6 a7 a8 a9 lo wr hi h8 hL hw=>?_) _ _ _ _ _ _ _ _ _ eb.nil;have hr:=nD hlt hi;have hV:u0/10^(n-i)<4294967296:=Nat.lt_of_lt_of_le hr (Nat.le_trans (Nat.pow_le_pow_right (by decide) (show i<=8 by omega)) (by decide));obtain⟨V,hVe⟩:∃V,V=u0/10^(n-i):=⟨_,rfl⟩;rw[←hVe]at hr hV ⊢;repeat' first|(apply EW hn hlt)|(apply LG;rfl;omega)|apply Ke|apply aj|apply Kf|apply Kg|apply cg|(apply Kd;rfl;rfl)|(apply Kh;rfl;rfl)
 exact⟨i,h8,hi,rfl,by rw[hVe],hL,hw⟩
section
variable {t:Nat} {x y:an} {l:List aw} {pe:List AV} {lo:List (Nat×AV)} {df wr:List Nat} {k:IntKind} {a:Int} {Q:ah->Prop} {L:ae} {n:Nat}
theorem LW (hx:(St.mk pe lo [some (.cells (aM L) e)] df).aa x=some (.ptr 0 0))(hl:L.length=24)(hy:(St.mk pe lo [some (.cells (aM L) e)] df).aa y=some (.int k a))(ha:a=(n:Int))(hn:n<=24)
 (h:WO M l ⟨⟨pe,(t,.sl 0 0 n 1 (some 24))::lo,[some (.cells (aM L) e)],df⟩,wr⟩ Q):WO M (⟨.l t,.fp 24 1 x none (some y),none⟩::l) ⟨⟨pe,lo,[some (.cells (aM L) e)],df⟩,wr⟩ Q:=by
 subst ha;refine WO.vv (i:=0) (j:=n) hx hl rfl ?_ (by decide) h;simp only[St.bS,hy,Option.map_some,Option.bind_some,aO];rw[if_pos (by omega)];rfl
theorem Lz (hx:(St.mk pe lo [some (.cells (aM L) e)] df).aa x=some (.ptr 0 0))(hl:L.length=24)(hy:(St.mk pe lo [some (.cells (aM L) e)] df).aa y=some (.int k a))(ha:a=1+(n:Int))(hn:n<24)
 (h:WO M l ⟨⟨pe,(t,.sl 0 1 n 1 (some 23))::lo,[some (.cells (aM L) e)],df⟩,wr⟩ Q):WO M (⟨.l t,.fp 24 1 x (some (.c (.iV 1))) (some y),none⟩::l) ⟨⟨pe,lo,[some (.cells (aM L) e)],df⟩,wr⟩ Q:=by
 subst ha;refine WO.vv (i:=1) (j:=n+1) hx hl ?_ ?_ (by decide) h
 . have e1:(St.mk pe lo [some (.cells (aM L) e)] df).aa (.c (.iV 1))=some (.iV 1):=rfl;simp only[St.bS,e1,Option.map_some,Option.bind_some,aO];rw[if_pos (by omega)];rfl
 . simp only[St.bS,hy,Option.map_some,Option.bind_some,aO];rw[if_pos (by omega)];congr 1;omega
theorem LX {hp:ab}{v:Int}(hx:(St.mk pe lo hp df).aa x=some (.uV a))(hv:(0-a)%18446744073709551616=v)
 (h:WO M l ⟨⟨pe,(t,.uV v)::lo,hp,df⟩,wr⟩ Q):WO M (⟨.l t,.un .neg x,none⟩::l) ⟨⟨pe,lo,hp,df⟩,wr⟩ Q:=
 Kd (v:=.uV v) (by simp only[aC,hx,Option.bind_some,lR,nh,hv]) rfl h
end
def lz:ae:=List.replicate 24 0
def eX (z:Int):ae:=if z<0 then 45::aH (-z).toNat else aH z.toNat
structure nE (M:au):Prop where
 ft:M.FT=FT
 vG:∀ars h,M.ext 306 ars h=none
 vH:∀(n:Nat) h,n<100->M.ext 304 [.iV n] h=some ⟨.str (aH n),h,[]⟩
 qV:∀(d:Int) h,(0<d/\d<18446744073709551616)->M.ext 305 [.uV d] h=some ⟨.iV (dM d),h,[]⟩
theorem nE.vI (C:nE M){e:TypeId}{off:Nat}(u:Nat)(hu:0<u/\u<18446744073709551616)(ho:off<=4) :
 ∃L' wr,eb 0 wr/\L'.length=24/\(L'.drop off).take (dM u)=aH u/\CT M (gn 306) [.sl 0 off (dM u) 1 cap,.uV u] [some (.cells (aM lz) e)] ⟨.aq [],[some (.cells (aM L') e)],wr⟩:=by
 obtain⟨k1,k2,k3,k4⟩:=qO hu;obtain⟨L',wr,hw,hD,hr⟩:=EX (cap:=cap) (e:=e) C.ft off (dM u) u (by omega) k3 hu.2 lz rfl;obtain⟨m,hm⟩:∃m,dM u=m+1:=⟨dM u-1,by omega⟩;refine⟨L',wr,hw,hD.1,?_,CT.run (fi:=[]) (ca:=[]) (C.vG _ _) hr⟩;rw[hD.fin (by omega)];rw[hm]at k3 k4 ⊢;exact(qH k3 (by
  rcases k4 with k4|k4
  . exact .inl (by omega)
  . exact .inr (by simpa using k4))).symm
set_option maxRecDepth 100000 in
theorem Fa (C:nE M)(z:Int)(hz : -9223372036854775808<=z/\z<9223372036854775808):aJ M 267 [.iV z,.iV 10] [] ⟨.str (eX z),[],[]⟩:=by
 have hz24:lz.length=24:=rfl;refine bq (by rw[C.ft];exact Et) (by simp) ?_;unfold vj;simp only[enter];by_cases h:z<0
 . obtain⟨u,hu⟩:∃u:Nat,z = -(u:Int):=⟨(-z).toNat,by omega⟩;have q305:=fun hh=>C.qV u hh (by omega)
   obtain⟨k1,k2,k3,k4⟩:=qO (d:=u) (by omega);obtain⟨L',wr,hw,hl,hd,q306⟩:=C.vI (cap:=some 23) (e:=301) (off:=1) u (by omega) (by decide);have e0:eX z=45::aH u:=by unfold eX;rw[if_pos h];congr 2;omega
   have e1:((L'.set (0+0*1) 45).drop 0).take (1+dM u)=45::aH u:=by
    cases L' with
    | nil=>simp at hl
    | cons c L'=>
     rw[←hd,Nat.add_comm 1];rfl
   rw[e0];repeat' first|(apply LR;rfl)|(apply LX (v:=(u:Int));rfl;omega)|(apply Lz (L:=lz) (n:=dM u);rfl;exact hz24;rfl;rfl;omega)|(apply Ln (L:=L') (c:=45);rfl;rfl;omega)|(apply LW (L:=L'.set (0+0*1) 45) (n:=1+dM u);rfl;(rw[List.length_set];exact hl);rfl;omega;omega)|(apply LF (L:=L'.set (0+0*1) 45);rfl;(rw[List.length_set];omega))|apply Ke|apply aj|apply Kf|apply Kg|apply Ki|apply Kl|apply aF|(apply Kj;rfl)|(apply Kk;rfl)|(apply KB;rfl)|(apply Kz;rfl;rfl)|(apply Le;rfl;rfl)|(apply Ks;rfl;rfl)|(apply Kq;rfl;rfl)|(apply KC;rfl;rfl;omega)|(apply Km;rfl;rfl;first|exact q305 _)|(apply KO;rfl;rfl;first|exact q306)|(apply Ko;rfl;rfl;rfl)|(apply Kd;rfl;rfl)|(apply Kh;rfl;rfl)|(intro _;omega)|intro _
   all_goals try omega
   rw[e1];exact⟨.inr rfl,rfl,_,rfl,rfl,rfl⟩
 . obtain⟨u,hu⟩:∃u:Nat,z=(u:Int):=⟨z.toNat,by omega⟩;have e0:eX z=aH u:=by unfold eX;rw[if_neg h];congr 1;omega
   rw[e0];subst hu;by_cases h1:u<100
   . have q304:=fun hh=>C.vH u hh h1
     repeat' first|apply Ke|apply aj|apply Kf|apply Kg|apply Ki|apply aF|(apply Kj;rfl)|(apply Ky;rfl)|(apply Kz;rfl;rfl)|(apply Le;rfl;rfl)|(apply Ks;rfl;rfl)|(apply Kp;rfl;rfl)|(apply Km;rfl;rfl;first|exact q304 _)|(apply Kd;rfl;rfl)|(apply Kh;rfl;rfl)|(intro _;omega)|intro _
     all_goals try omega
     all_goals exact⟨.inr rfl,rfl,_,rfl,rfl,rfl⟩
   . have q305:=fun hh=>C.qV u hh (by omega)
     obtain⟨k1,k2,k3,k4⟩:=qO (d:=u) (by omega);obtain⟨L',wr,hw,hl,hd,q306⟩:=C.vI (cap:=some 23) (e:=301) (off:=1) u (by omega) (by decide);repeat' first|(apply Lz (L:=lz) (n:=dM u);rfl;exact hz24;rfl;rfl;omega)|(apply Lz (L:=L') (n:=dM u);rfl;exact hl;rfl;rfl;omega)|(apply LF (L:=L');rfl;omega)|apply Ke|apply aj|apply Kf|apply Kg|apply Ki|apply Kl|apply aF|(apply Kj;rfl)|(apply Kk;rfl)|(apply Ky;rfl)|(apply Kz;rfl;rfl)|(apply Le;rfl;rfl)|(apply Ks;rfl;rfl)|(apply Lu;rfl;omega)|(apply Kp;rfl;rfl)|(apply KC;rfl;rfl;omega)|(apply Km;rfl;rfl;first|exact q305 _)|(apply KO;rfl;rfl;first|exact q306)|(apply Ko;rfl;rfl;rfl)|(apply Kd;rfl;rfl)|(apply Kh;rfl;rfl)|(intro _;omega)|intro _
     all_goals try omega
     rw[hd];exact⟨.inr rfl,rfl,_,rfl,rfl,rfl⟩
theorem Fb (hft:M.FT=FT)(z:Int)(q:∀h,M.ext 267 [.iV z,.iV 10] h=some ⟨.str (eX z),h,[]⟩):aJ M 226 [.iV z] [] ⟨.str (eX z),[],[]⟩:=by
 refine bq (by rw[hft];exact Er) (by simp) ?_;unfold vh;simp only[enter];repeat' first|apply Ke|apply aj|apply Kf|apply Kg|apply Ki|(apply Km;rfl;rfl;first|exact q _)|(apply Kd;rfl;rfl)|(apply Kh;rfl;rfl)
 all_goals exact⟨.inr rfl,rfl,_,rfl,rfl,rfl⟩
theorem Fc (hft:M.FT=FT)(z:Int)(q:∀h,M.ext 226 [.iV z] h=some ⟨.str (eX z),h,[]⟩):aJ M 183 [.iV z] [] ⟨.str (eX z),[],[]⟩:=by
 refine bq (by rw[hft];exact Ep) (by simp) ?_;unfold vg;simp only[enter];repeat' first|apply Ke|apply aj|apply Kf|apply Kg|apply Ki|(apply Km;rfl;rfl;first|exact q _)|(apply Kd;rfl;rfl)|(apply Kh;rfl;rfl)
 all_goals exact⟨.inr rfl,rfl,_,rfl,rfl,rfl⟩
set_option maxRecDepth 1000000
def Fe:ao:=.seq (zR [⟨.l 111,.call (kF 302) [(.p 7)],none⟩,zm 112 5,zb 113 .lss 111 112] (.cond (.l 113) (.skip) (.exit 3))) (.block 4 (zR [zm 114 5,⟨.l 115,.call (kF 302) [(.p 7)],none⟩,zb 116 .sub 114 115,⟨.l 117,.call (kF 302) [(.p 7)],none⟩,zm 118 6,⟨.l 119,.mm false [(.l 116),(.l 117),(.l 118)],none⟩,zw 8 119] (.region [⟨.l 120,.call (kF 266) [(.p 7)],none⟩,zm 121 8,⟨.l 122,.slice .str 1 (.l 120) none (some (.l 121)) none,none⟩,⟨.l 123,.call (kF 265) [(.p 7),(.l 122)],none⟩])))
def vJ:ao:=zR [⟨.p 2,.mv (.c (.str [])),none⟩] (.seq (zR [⟨.p 9,.mv (.p 1),none⟩] (.block 0 (zR [zq 13 .eql 9 0,zn 12 13] (.cond (.l 12) (zR [⟨.p 2,.mv (.c (.str [])),none⟩] (.ret)) (zR [zq 15 .eql 9 1,zn 14 15] (.cond (.l 14) (zR [zm 16 0,zw 2 16] (.ret)) (.skip))))))) (.seq (zR [zm 17 1,zc 18 .lss 17 0] (.cond (.l 18) (.bad) (.skip))) (zR [zm 21 0,zL 22 21,⟨.l 23,.de .u64 (.l 22),none⟩,zm 24 1,⟨.l 25,.de .u64 (.l 24),none⟩,z2 26 300 23 25,zn 20 26,ze 27 0 20,ze 28 1 20,zw 3 27,zw 4 28] (.seq (zR [zm 29 3,⟨.l 30,.bin .gtr (.l 29) (kU 0),none⟩,zn 31 30,zg (zm 32 4) 31 false,⟨.l 33,.bin .gtr (.l 32) (kU 9223372036854775807),some ((.l 31),false)⟩,zP 34 31 33] (.cond (.l 34) (.bad) (.skip))) (zR [zm 36 4,⟨.l 37,.de .i64 (.l 36),none⟩,zw 5 37] (.seq (zR [zm 38 0,zL 39 38,zc 40 .eql 39 0] (.cond (.l 40) (zR [⟨.p 2,.mv (.c (.str [])),none⟩] (.ret)) (.skip))) (.seq (zR [zm 41 0,⟨.p 10,.index (.l 41) (kI 0),none⟩] (.block 1 (.seq (zR [⟨.l 44,.bin .eql (.p 10) (.c (.int .u8 (32))),none⟩,zw 11 44] (.cond (.p 11) (.skip) (zR [⟨.l 45,.bin .eql (.p 10) (.c (.int .u8 (45))),none⟩,zw 11 45] (.cond (.p 11) (.skip) (zR [⟨.l 46,.bin .eql (.p 10) (.c (.int .u8 (48))),none⟩,zw 11 46] (.cond (.p 11) (.skip) (zR [⟨.l 47,.bin .eql (.p 10) (.c (.int .u8 (61))),none⟩,zw 11 47] (.cond (.p 11) (.skip) (.region [⟨.l 48,.bin .eql (.p 10) (.c (.int .u8 (9))),none⟩,zw 11 48]))))))))) (.cond (.p 11) (.block 2 (zR [zm 50 5,zc 51 .leq 50 128,zn 52 51,zg (zm 53 0) 52 true,⟨.l 54,.call (kF 212) [(.c (.str zD6)),(.l 53)],some ((.l 52),true)⟩,zp 55 52 54,zn 49 55] (.cond (.l 49) (zR [zm 56 5,⟨.l 57,.slice .str 1 (.c (.str zD6)) none (some (.l 56)) none,none⟩,zw 2 57] (.ret)) (zR [zm 59 5,zc 60 .leq 59 128,zn 61 60,zg (zm 62 0) 61 true,⟨.l 63,.call (kF 212) [(.c (.str zD3)),(.l 62)],some ((.l 61),true)⟩,zp 64 61 63,zn 58 64] (.cond (.l 58) (zR [zm 65 5,⟨.l 66,.slice .str 1 (.c (.str zD3)) none (some (.l 65)) none,none⟩,zw 2 66] (.ret)) (zR [zm 68 5,zc 69 .leq 68 64,zn 70 69,zg (zm 71 0) 70 true,⟨.l 72,.call (kF 212) [(.c (.str zD7)),(.l 71)],some ((.l 70),true)⟩,zp 73 70 72,zn 67 73] (.cond (.l 67) (zR [zm 74 5,⟨.l 75,.slice .str 1 (.c (.str zD7)) none (some (.l 74)) none,none⟩,zw 2 75] (.ret)) (zR [zm 77 5,zc 78 .leq 77 128,zn 79 78,zg (zm 80 0) 79 true,⟨.l 81,.call (kF 212) [(.c (.str zD5)),(.l 80)],some ((.l 79),true)⟩,zp 82 79 81,zn 76 82] (.cond (.l 76) (zR [zm 83 5,⟨.l 84,.slice .str 1 (.c (.str zD5)) none (some (.l 83)) none,none⟩,zw 2 84] (.ret)) (zR [zm 86 5,zc 87 .leq 86 64,zn 88 87,zg (zm 89 0) 88 true,⟨.l 90,.call (kF 212) [(.c (.str zD4)),(.l 89)],some ((.l 88),true)⟩,zp 91 88 90,zn 85 91] (.cond (.l 85) (zR [zm 92 5,⟨.l 93,.slice .str 1 (.c (.str zD4)) none (some (.l 92)) none,none⟩,zw 2 93] (.ret)) (.skip)))))))))))) (.skip))))) (zR [zm 94 5,zw 6 94] (.seq (zR [zm 95 5,zc 96 .gtr 95 8192] (.cond (.l 96) (zR [zm 97 0,zL 98 97,⟨.l 99,.bin .quo (kI 8192) (.l 98),none⟩,zm 100 0,zL 101 100,zb 102 .mul 99 101,zw 6 102] (zR [zm 103 6,zc 104 .eql 103 0] (.cond (.l 104) (.region [zm 105 0,zL 106 105,zw 6 106]) (.skip)))) (.skip))) (zR [⟨.p 7,.alloc 269 [.cK,.ak],none⟩] (zR [zm 107 5,⟨.l 108,.call (kF 301) [(.p 7),(.l 107)],none⟩] (zR [zm 109 0,⟨.l 110,.call (kF 265) [(.p 7),(.l 109)],none⟩] (.seq (.block 3 (.loop Fe)) (zR [⟨.l 124,.call (kF 266) [(.p 7)],none⟩,zw 2 124] (.ret)))))))))))))))
theorem Ff:FT 264=some ⟨125,[0,1,4,5,6,7,8,9,10,11,42,43],[.var (.p 2)],vJ⟩:=by kernel_rfl
def vK:ao:=zR [⟨.p 2,.mv (kU 0),none⟩,⟨.p 3,.mv (kU 0),none⟩] (.seq (.cond (.c (.bool false)) (zR [zm 11 0,⟨.l 12,.de .u32 (.l 11),none⟩,zm 13 1,⟨.l 14,.de .u32 (.l 13),none⟩,z2 15 321 12 14,zn 10 15,ze 16 0 10,ze 17 1 10,zw 4 16,zw 5 17] (zR [zm 18 4,⟨.l 19,.de .u64 (.l 18),none⟩,zm 20 5,⟨.l 21,.de .u64 (.l 20),none⟩,zw 2 19,zw 3 21] (.ret))) (.skip)) (zR [zm 23 0,zm 24 1,z2 25 244 23 24,zn 22 25,ze 26 0 22,ze 27 1 22,zw 6 26,zw 7 27] (zR [zm 28 6,zm 29 7,zw 2 28,zw 3 29] (.ret))))
theorem Fg:FT 300=some ⟨30,[0,1,4,5,6,7,8,9],[.var (.p 2),.var (.p 3)],vK⟩:=by kernel_rfl
end Go.Ab.Ch1

/-
  Own work: decimal texts in parts of 18 digits.
-/
namespace Go.Ab.aD
end Go.Ab.aD

/-
  Own work: the code of texts of integers and fractions.
-/
namespace Go.Ab.Ch1
set_option maxRecDepth 1000000
open Go.Ab.aD
variable {M:au} {cap:Option Nat} {N:Nat}
variable {N2:Nat}
def nF:List AV:=List.replicate 256 (.bool false)
def vL:ao:=zR [⟨.p 2,.mv (.c (.bool false)),none⟩] (zR [zm 5 0,zm 6 1,z2 7 255 5 6,zw 2 7] (.ret))
theorem Fh:FT 212=some ⟨8,[0,1,4],[.var (.p 2)],vL⟩:=by kernel_rfl
def qW:ao:=zR [⟨.p 2,.mv (.c (.bool false)),none⟩] (zR [zm 5 0,zL 6 5,zm 7 1,zL 8 7,zb 9 .geq 6 8,zn 10 9,zg (zm 11 0) 10 true,zg (zm 12 1) 10 true,zg (zL 13 12) 10 true,⟨.l 14,.slice .str 1 (.l 11) none (some (.l 13)) none,some ((.l 10),true)⟩,zg (zm 15 1) 10 true,zg (zb 16 .eql 14 15) 10 true,zp 17 10 16,zw 2 17] (.ret))
theorem Fi:FT 255=some ⟨18,[0,1,4],[.var (.p 2)],qW⟩:=by kernel_rfl
def vM:ao:=zR [zi 1 0,⟨.p 2,.mv (.c (.bZ)),none⟩] (zR [zm 7 0,z1 8 259 7,zn 6 8,ze 9 0 6,ze 10 1 6,zw 3 9,zw 4 10] (.seq (zR [zm 11 4,⟨.l 12,.eq true (.iface false) (.l 11) (.c (.bZ)),none⟩] (.cond (.l 12) (zR [zm 13 3,zm 14 0,zm 15 4,⟨.l 16,.call (kF 260) [(.c (.str zD9)),(.l 14),(kI 0),(kI 0),(.l 15)],none⟩,zw 1 13,zw 2 16] (.ret)) (.skip))) (zR [zm 17 3,zw 1 17,⟨.p 2,.mv (.c (.bZ)),none⟩] (.ret))))
theorem Fj:FT 214=some ⟨18,[0,2,3,4,5],[.var (.p 1),.var (.p 2)],vM⟩:=by kernel_rfl
def nG:ao:=zR [zr 50 .lss 11 10] (.seq (.cond (.l 50) (.skip) (.exit 0)) (.seq (.block 1 (zR [⟨.l 51,.ee none 1 (.p 9) (.p 11),none⟩,zd 52 1 51,zw 6 52] (zR [zm 53 6,⟨.l 54,.bin .sub (.l 53) (.c (.int .u8 (48))),none⟩,zw 6 54] (.seq (zR [zm 55 6,⟨.l 56,.bin .gtr (.l 55) (.c (.int .u8 (9))),none⟩] (.cond (.l 56) (zR [⟨.l 57,.ku 291 (kI 2),none⟩,zi 1 0,zw 2 57] (.ret)) (.skip))) (.region [zm 58 5,zc 59 .mul 58 10,zm 60 6,⟨.l 61,.de .i64 (.l 60),none⟩,zb 62 .add 59 61,zw 5 62]))))) (.region [zq 63 .add 11 1,zw 11 63])))
def vN:ao:=zR [zi 1 0,⟨.p 2,.mv (.c (.bZ)),none⟩] (zR [zm 11 0,zL 12 11,zw 3 12] (.seq (zR [⟨.l 13,.mv (.c (.bool false)),none⟩,zg (zm 14 3) 13 true,⟨.l 15,.bin .lss (kI 0) (.l 14),some ((.l 13),true)⟩,zg (zn 16 15) 13 true,zg (zm 17 3) 16 true,zg (zc 18 .lss 17 10) 16 true,zg (zp 19 16 18) 13 true,zp 20 13 19,zn 21 20,⟨.l 22,.mv (.c (.bool true)),some ((.l 21),false)⟩,zg (zm 23 3) 22 true,⟨.l 24,.bin .lss (kI 0) (.l 23),some ((.l 22),true)⟩,zg (zn 25 24) 22 true,zg (zm 26 3) 25 true,zg (zc 27 .lss 26 19) 25 true,zg (zp 28 25 27) 22 true,zg (zp 29 22 28) 21 false,zP 30 21 29] (.cond (.l 30) (zR [zm 31 0,zw 4 31] (.seq (zR [zm 32 0,⟨.l 33,.index (.l 32) (kI 0),none⟩,⟨.l 34,.bin .eql (.l 33) (.c (.int .u8 (45))),none⟩,zn 35 34,zg (zm 36 0) 35 false,⟨.l 37,.index (.l 36) (kI 0),some ((.l 35),false)⟩,⟨.l 38,.bin .eql (.l 37) (.c (.int .u8 (43))),some ((.l 35),false)⟩,zP 39 35 38] (.cond (.l 39) (zR [zm 40 0,⟨.l 41,.slice .str 1 (.l 40) (some (kI 1)) none none,none⟩,zw 0 41] (zR [zm 42 0,zL 43 42,zc 44 .lss 43 1] (.cond (.l 44) (zR [⟨.l 45,.ku 291 (kI 2),none⟩,zi 1 0,zw 2 45] (.ret)) (.skip)))) (.skip))) (zR [zi 5 0] (.seq (zR [zm 46 0,⟨.p 9,.jr 5 (.l 46),none⟩,⟨.p 10,.len .sl (.p 9),none⟩,zi 11 0] (.block 0 (.loop nG))) (.seq (zR [zm 64 4,⟨.l 65,.index (.l 64) (kI 0),none⟩,⟨.l 66,.bin .eql (.l 65) (.c (.int .u8 (45))),none⟩] (.cond (.l 66) (.region [zm 67 5,⟨.l 68,.un .neg (.l 67),none⟩,zw 5 68]) (.skip))) (zR [zm 69 5,zw 1 69,⟨.p 2,.mv (.c (.bZ)),none⟩] (.ret))))))) (.skip))) (zR [zm 71 0,⟨.l 72,.call (kF 293) [(.l 71),(kI 10),(kI 0)],none⟩,zn 70 72,ze 73 0 70,ze 74 1 70,zw 7 73,zw 8 74] (zR [zm 75 7,zm 76 8,zw 1 75,zw 2 76] (.ret)))))
theorem Fk:FT 259=some ⟨77,[0,2,3,4,5,6,8,9,10,47,48,49],[.var (.p 1),.var (.p 2)],vN⟩:=by kernel_rfl
def vO:ao:=zR [⟨.p 2,.mv (.c (.str [])),none⟩,⟨.p 3,.mv (.c (.str [])),none⟩,⟨.p 4,.mv (.c (.bool false)),none⟩] (zR [zm 7 0,zm 8 1,z2 9 208 7 8,ze 10 0 9,ze 11 1 9,ze 12 2 9,zw 2 10,zw 3 11,zw 4 12] (.ret))
theorem Fl:FT 163=some ⟨13,[0,1,4,5,6],[.var (.p 2),.var (.p 3),.var (.p 4)],vO⟩:=by kernel_rfl
def qX:ao:=zR [⟨.p 2,.mv (.c (.str [])),none⟩,⟨.p 3,.mv (.c (.str [])),none⟩,⟨.p 4,.mv (.c (.bool false)),none⟩] (.seq (zR [zm 8 0,zm 9 1,z2 10 256 8 9,zw 5 10] (zR [zm 11 5,zc 12 .geq 11 0] (.cond (.l 12) (.seq (.draw [(zm 13 0,[]),(zm 14 5,[0]),(⟨.l 15,.slice .str 1 (.l 13) none (some (.l 14)) none,none⟩,[]),(zm 16 0,[0,1,2]),(zm 17 5,[0,1,2,3]),(zm 18 1,[0,1,2,3,4]),(zL 19 18,[0,1,2,3,4]),(zb 20 .add 17 19,[0,1,2,3]),(⟨.l 21,.slice .str 1 (.l 16) (some (.l 20)) none none,none⟩,[0,1,2]),(zw 2 15,[3,4,5,6,7,8]),(zw 3 21,[]),(⟨.p 4,.mv (.c (.bool true)),none⟩,[])]) (.ret)) (.skip)))) (zR [zm 22 0,zw 2 22,⟨.p 3,.mv (.c (.str [])),none⟩,⟨.p 4,.mv (.c (.bool false)),none⟩] (.ret)))
theorem Fm:FT 208=some ⟨23,[0,1,4,5,6,7],[.var (.p 2),.var (.p 3),.var (.p 4)],qX⟩:=by kernel_rfl
def Fo:ao:=.seq (zR [zm 57 6,zm 58 7,zb 59 .lss 57 58] (.cond (.l 59) (.skip) (.exit 1))) (.block 2 (.seq (zR [zm 60 0,zm 61 6,⟨.l 62,.index (.l 60) (.l 61),none⟩,zm 63 4,zb 64 .neq 62 63] (.cond (.l 64) (zR [zm 65 0,zm 66 6,zc 67 .add 66 1,zm 68 7,⟨.l 69,.slice .str 1 (.l 65) (some (.l 67)) (some (.l 68)) none,none⟩,zm 70 4,z2 71 282 69 70,zw 9 71] (.seq (zR [zm 72 9,zc 73 .lss 72 0] (.cond (.l 73) (zR [zi 2 (-1)] (.ret)) (.skip))) (.region [zm 74 6,zm 75 9,zc 76 .add 75 1,zb 77 .add 74 76,zw 6 77]))) (.skip))) (.seq (zR [zm 78 0,zm 79 6,zc 80 .add 79 1,⟨.l 81,.index (.l 78) (.l 80),none⟩,zm 82 5,zb 83 .eql 81 82,zn 84 83,zg (zm 85 0) 84 true,zg (zm 86 6) 84 true,zg (zm 87 6) 84 true,zg (zm 88 3) 84 true,zg (zb 89 .add 87 88) 84 true,⟨.l 90,.slice .str 1 (.l 85) (some (.l 86)) (some (.l 89)) none,some ((.l 84),true)⟩,zg (zm 91 1) 84 true,zg (zb 92 .eql 90 91) 84 true,zp 93 84 92] (.cond (.l 93) (zR [zm 94 6,zw 2 94] (.ret)) (.skip))) (zR [zm 95 6,zc 96 .add 95 1,zw 6 96] (zR [zm 97 8,zc 98 .add 97 1,zw 8 98] (.seq (.bad) (.cond (.l 107) (zR [zm 108 0,zm 109 6,⟨.l 110,.slice .str 1 (.l 108) (some (.l 109)) none none,none⟩,zm 111 1,z2 112 283 110 111,zw 10 112] (.seq (zR [zm 113 10,zc 114 .geq 113 0] (.cond (.l 114) (zR [zm 115 10,zm 116 6,zb 117 .add 115 116,zw 2 117] (.ret)) (.skip))) (zR [zi 2 (-1)] (.ret)))) (.seq (.bad) (.cond (.l 132) (zR [zm 133 0,zm 134 6,⟨.l 135,.slice .str 1 (.l 133) (some (.l 134)) none none,none⟩,zm 136 1,z2 137 285 135 136,zw 11 137] (.seq (zR [zm 138 11,zc 139 .lss 138 0] (.cond (.l 139) (zR [zi 2 (-1)] (.ret)) (.skip))) (zR [zm 140 6,zm 141 11,zb 142 .add 140 141,zw 2 142] (.ret)))) (.skip))))))))))
def vP:ao:=zR [zi 2 0] (zR [zm 14 1,zL 15 14,zw 3 15] (.seq (.block 0 (zR [zm 17 3,zc 18 .eql 17 0,zn 19 18,zg (zm 20 1) 19 false,zg (zm 21 0) 19 false,zg (zb 22 .eql 20 21) 19 false,zP 23 19 22,zn 16 23] (.cond (.l 16) (zR [zi 2 0] (.ret)) (zR [zm 25 3,zc 26 .eql 25 1,zn 24 26] (.cond (.l 24) (zR [zm 27 0,zm 28 1,⟨.l 29,.index (.l 28) (kI 0),none⟩,z2 30 282 27 29,zw 2 30] (.ret)) (zR [zm 32 3,zm 33 0,zL 34 33,zb 35 .geq 32 34,zn 31 35] (.cond (.l 31) (zR [zi 2 (-1)] (.ret)) (.seq (.bad) (.cond (.l 36) (zR [zm 45 0,zm 46 1,z2 47 283 45 46,zw 2 47] (.ret)) (.skip)))))))))) (zR [zm 48 1,⟨.l 49,.index (.l 48) (kI 0),none⟩,zw 4 49] (zR [zm 50 1,⟨.l 51,.index (.l 50) (kI 1),none⟩,zw 5 51] (zR [zi 6 0] (zR [zm 52 0,zL 53 52,zm 54 3,zb 55 .sub 53 54,zc 56 .add 55 1,zw 7 56] (zR [zi 8 0] (.seq (.block 1 (.loop Fo)) (zR [zi 2 (-1)] (.ret))))))))))
theorem Fp:FT 256=some ⟨143,[0,1,4,5,6,7,8,9,10,11,12,13],[.var (.p 2)],vP⟩:=by kernel_rfl
def vQ:ao:=zR [zi 2 0] (zR [zm 5 0,zm 6 1,z2 7 312 5 6,zw 2 7] (.ret))
theorem Fq:FT 282=some ⟨8,[0,1,4],[.var (.p 2)],vQ⟩:=by kernel_rfl
def vR:ao:=zR [⟨.p 1,.mv (.c (.bool false)),none⟩] (zR [zm 3 0,⟨.l 4,.bin .neq (.l 3) (.c (.str [])),none⟩,zn 5 4,zg (zm 6 0) 5 true,⟨.l 7,.call (kF 257) [(.l 6),(.c (.str zD8))],some ((.l 5),true)⟩,⟨.l 8,.bin .eql (.l 7) (.c (.str [])),some ((.l 5),true)⟩,zp 9 5 8,zw 1 9] (.ret))
theorem Fs:FT 209=some ⟨10,[0,2],[.var (.p 1)],vR⟩:=by kernel_rfl
def vS:ao:=zR [⟨.p 2,.mv (.c (.str [])),none⟩] (.seq (zR [zm 7 0,⟨.l 8,.bin .eql (.l 7) (.c (.str [])),none⟩,zn 9 8,zg (zm 10 1) 9 false,⟨.l 11,.bin .eql (.l 10) (.c (.str [])),some ((.l 9),false)⟩,zP 12 9 11] (.cond (.l 12) (zR [zm 13 0,zw 2 13] (.ret)) (.skip))) (.seq (zR [zm 14 1,zL 15 14,zc 16 .eql 15 1,zn 17 16,zg (zm 18 1) 17 true,⟨.l 19,.index (.l 18) (kI 0),some ((.l 17),true)⟩,⟨.l 20,.bin .lss (.l 19) (.c (.int .u8 (128))),some ((.l 17),true)⟩,zp 21 17 20] (.cond (.l 21) (.seq (.draw [(zm 22 0,[]),(zm 23 1,[0]),(⟨.l 24,.index (.l 23) (kI 0),none⟩,[0]),(z2 25 287 22 24,[]),(zm 26 1,[0,1,2,3]),(⟨.l 27,.index (.l 26) (kI 0),none⟩,[0,1,2,3]),(z2 28 286 25 27,[]),(zw 2 28,[])]) (.ret)) (.skip))) (.seq (zR [zm 30 1,z1 31 288 30,zn 29 31,ze 32 0 29,ze 33 1 29,⟨.p 3,.alloc 286 nF,none⟩,zs 256 3 32,zw 4 33] (zR [zm 34 4] (.cond (.l 34) (zR [zm 35 0,⟨.l 36,.call (kF 290) [(.l 35),(.p 3)],none⟩,⟨.l 37,.call (kF 289) [(.l 36),(.p 3)],none⟩,zw 2 37] (.ret)) (.skip)))) (zR [zm 38 0,zm 39 1,z2 40 292 38 39,zm 41 1,z2 42 291 40 41,zw 2 42] (.ret)))))
theorem Ft:FT 257=some ⟨43,[0,1,4,5,6],[.var (.p 2)],vS⟩:=by kernel_rfl
def Fu:ao:=.seq (zR [zm 6 3,zm 7 0,zL 8 7,zb 9 .lss 6 8] (.cond (.l 9) (.skip) (.exit 0))) (.seq (.block 1 (zR [zm 12 0,zm 13 3,⟨.l 14,.index (.l 12) (.l 13),none⟩,zw 4 14] (.seq (zR [zm 15 4,⟨.l 16,.bin .geq (.l 15) (.c (.int .u8 (128))),none⟩] (.cond (.l 16) (zR [zt 17 256 1,zs 256 1 17,⟨.p 2,.mv (.c (.bool false)),none⟩] (.ret)) (.skip))) (.region [zm 18 4,⟨.l 19,.ee (some 256) 1 (.p 1) (.l 18),none⟩,⟨.no,.store 1 (.l 19) (.c (.bool true)),none⟩])))) (.region [zm 10 3,zc 11 .add 10 1,zw 3 11]))
def qY:ao:=zR [⟨.p 1,.alloc 286 nF,none⟩,⟨.p 2,.mv (.c (.bool false)),none⟩] (.seq (zR [zi 3 0] (.block 0 (.loop Fu))) (zR [zt 20 256 1,zs 256 1 20,⟨.p 2,.mv (.c (.bool true)),none⟩] (.ret)))
theorem Fv:FT 288=some ⟨21,[0,2,3,4,5],[.cell 256 true (.p 1),.var (.p 2)],qY⟩:=by kernel_rfl
def lA:ao:=.seq (zR [zm 5 0,zL 6 5,zc 7 .gtr 6 0] (.cond (.l 7) (.skip) (.exit 0))) (.block 1 (.seq (zR [zm 8 1,zm 9 0,⟨.l 10,.index (.l 9) (kI 0),none⟩,z2 11 314 8 10,zu 12 11] (.cond (.l 12) (.exit 0) (.skip))) (.region [zm 13 0,⟨.l 14,.slice .str 1 (.l 13) (some (kI 1)) none none,none⟩,zw 0 14])))
def vT:ao:=zR [⟨.p 2,.mv (.c (.str [])),none⟩] (.seq (.block 0 (.loop lA)) (zR [zm 15 0,zw 2 15] (.ret)))
theorem Fw:FT 289=some ⟨16,[0,1,4],[.var (.p 2)],vT⟩:=by kernel_rfl
def lB:ao:=.seq (zR [zm 5 0,zL 6 5,zc 7 .gtr 6 0] (.cond (.l 7) (.skip) (.exit 0))) (.block 1 (.seq (zR [zm 8 1,zm 9 0,zm 10 0,zL 11 10,zc 12 .sub 11 1,⟨.l 13,.index (.l 9) (.l 12),none⟩,z2 14 314 8 13,zu 15 14] (.cond (.l 15) (.exit 0) (.skip))) (.region [zm 16 0,zm 17 0,zL 18 17,zc 19 .sub 18 1,⟨.l 20,.slice .str 1 (.l 16) none (some (.l 19)) none,none⟩,zw 0 20])))
def vU:ao:=zR [⟨.p 2,.mv (.c (.str [])),none⟩] (.seq (.block 0 (.loop lB)) (zR [zm 21 0,zw 2 21] (.ret)))
theorem Fx:FT 290=some ⟨22,[0,1,4],[.var (.p 2)],vU⟩:=by kernel_rfl
def vV:ao:=zR [⟨.p 2,.mv (.c (.bool false)),none⟩] (zR [zm 5 0,zm 6 1,⟨.l 7,.lP (.l 5),none⟩,⟨.l 8,.ee (some 256) 1 (.l 7) (.l 6),none⟩,zd 9 1 8,zw 2 9] (.ret))
theorem Fy:FT 314=some ⟨10,[0,1,4],[.var (.p 2)],vV⟩:=by kernel_rfl
def vW:ao:=zR [⟨.p 1,.mv (.c (.bool false)),none⟩] (zR [zm 3 0,z1 4 209 3,zn 5 4,zg (zm 6 0) 5 true,⟨.l 7,.index (.l 6) (kI 0),some ((.l 5),true)⟩,⟨.l 8,.bin .neq (.l 7) (.c (.int .u8 (48))),some ((.l 5),true)⟩,zg (zn 9 8) 5 true,zg (zm 10 0) 9 false,⟨.l 11,.bin .eql (.l 10) (.c (.str [48])),some ((.l 9),false)⟩,zg (zP 12 9 11) 5 true,zp 13 5 12,zw 1 13] (.ret))
theorem Fz:FT 164=some ⟨14,[0,2],[.var (.p 1)],vW⟩:=by kernel_rfl
end Go.Ab.Ch1
