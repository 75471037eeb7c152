/-
  Own work: the resolved code of some functions of chapter 1.
-/
import Derived.Test.YtcjphdmkgmkabaaGreatDoorCh1Base
import Derived.Test.YtcjphdmkgmkabaaGreatDoorLib4
import Derived.Test.YtcjphdmkgmkabaaGreatDoorCh1Row
import Derived.Test.YtcjphdmkgmkabaaGreatDoorLib5
set_option maxHeartbeats 8000000
set_option maxRecDepth 20000
namespace Go.Ab.Ch1
set_option maxRecDepth 1000000
def vi:ao:=zR [⟨.p 3,.mv (.c (.bool false)),none⟩] (zR [zm 7 0,zm 8 1,zb 9 .lss 7 8,zn 10 9,zg (zm 11 0) 10 false,zg (zm 12 2) 10 false,zg (zb 13 .gtr 11 12) 10 false,zP 14 10 13,zw 3 14] (.ret))
theorem EH:FT 95=some ⟨15,[0,1,2,6],[.var (.p 3)],vi⟩:=by kernel_rfl
end Go.Ab.Ch1

/-
  Own work: plain facts of drawn orders: an exchange after the other gives an order of the same elements; its last place and the rest.
-/
namespace Go.Ab
end Go.Ab

/-
  Own work: mark.Draw, mark.outside, stadionref01.CheckDraw: what they compute.
-/
namespace Go.Ab.Ch1
open Go.Proofs.Tryz
variable {M:ay}
theorem EI (hft:M.FT=FT)(x lo hi:Int):aG M 95 [.iV x,.iV lo,.iV hi] [] ⟨.bool (decide (x<lo) || decide (hi<x)),[],[]⟩:=by
 refine ba (by rw[hft];exact EH) (by simp) ?_;unfold vi;repeat' first|apply LL|apply aj|apply LM|apply LN|apply LP|(apply Mf;rfl)|(apply Mm;rfl)|(apply Md;rfl;rfl)|(apply LZ;rfl;rfl)|(apply Mb;rfl;rfl)|(apply Ma;rfl;rfl)|(apply LK;rfl;rfl)|(apply LO;rfl;rfl)|(intro _;omega)|intro _
 all_goals exact⟨.inr rfl,rfl,_,rfl,by simp[cd, *];try omega,by simp[AV.top]⟩
end Go.Ab.Ch1

/-
  Own work: contracts of chapter 1 as a table.
-/
namespace Go.Ab
open Go.ChangeShapes Go.WideShapes Go.RowKit
variable {P:Program} {gl:Nat->Option AV}
theorem bw {FT:FuncId->Option bQ}{T:List (Nat×Spec)}:(bq P FT T).FT=FT:=rfl
theorem EJ {FT:FuncId->Option bQ}{T:List (Nat×Spec)}:(bq P FT T).ext=cR T:=rfl
theorem EK {FT:FuncId->Option bQ}(hs:jj P gl FT){T:List (Nat×Spec)}(hT:cQ P gl (cR T)){f:Nat}{xs:List AV}{w:World}(hr:aG (bq P FT T) f xs [] ⟨.bool true,[],[]⟩)
 (hgl:∀g v,gl g=some v->V bare w v (.pointer (some ⟨g,0,none⟩))) {as':List Value} (hv:VL bare w xs as'):Calls P f as'.toArray w fun e w'=>e = .returned (.bool true)/\Below w.heap.size w w':=by
 obtain⟨n,hn⟩:=hr;refine(CU hs.mix hT hs.ft hn hgl hv).mono fun e w' he=>?_
 obtain⟨v',h1,⟨ρ',h2⟩,h3⟩:=he;cases h2;exact⟨h1,CV h3⟩
end Go.Ab
namespace Go.Ab.Ch1
open Go.Proofs
def EL:Spec:=qk [] (.bool true)
theorem EM:aQ Tryz.prog gl 18 EL:=CZ vh rfl rfl Eu
def vj:Spec:=fun
 | [.int .i64 x,.int .i64 lo,.int .i64 hi],h=>some ⟨.bool (decide (x<lo) || decide (hi<x)),h,[]⟩
 | _,_=>none
theorem EN:aQ Tryz.prog gl 95 vj:=by
 intro xs h r hq;unfold vj at hq;split at hq
 . cases hq;exact fK eX bc (EI (M:=bq Tryz.prog FT []) bw _ _ _) (dt.same rfl) rfl (.inl rfl)
 . cases hq
set_option maxRecDepth 1000000
def vk:ao:=zR [zi 2 0] (.seq (zR [zm 5 0] (.cond (.l 5) (zR [zm 6 1,zw 2 6] (.ret)) (.skip))) (zR [zi 2 0] (.ret)))
theorem EO:FT 97=some ⟨7,[0,1,4],[.var (.p 2)],vk⟩:=by kernel_rfl
def nE:ao:=zR [zr 8 .lss 5 4] (.seq (.cond (.l 8) (.skip) (.exit 0)) (.seq (.block 1 (zR [⟨.l 9,.dE none 1 (.p 3) (.p 5),none⟩,zd 10 1 9,zw 2 10] (zR [zm 11 2,zc 12 .neq 11 0] (.cond (.l 12) (zR [zm 13 2,zw 1 13] (.ret)) (.skip))))) (.region [zq 14 .add 5 1,zw 5 14])))
def vl:ao:=zR [zi 1 0] (.seq (zR [⟨.p 3,.mv (.p 0),none⟩,⟨.p 4,.len .sl (.p 3),none⟩,zi 5 0] (.block 0 (.loop nE))) (zR [zi 1 0] (.ret)))
theorem EP:FT 96=some ⟨15,[0,2,4,5,6,7],[.var (.p 1)],vl⟩:=by kernel_rfl
variable {inv:cO} {F:FuncId->Option bQ}
abbrev eY (T:List (Nat×Spec))(inv:cO)(F:FuncId->Option bQ):ay:=⟨cR T,inv,F⟩
theorem ES {g:Nat}{sp:Spec}{T:List (Nat×Spec)}{xs:List AV}{h:ae}:cR ((g,sp)::T) g xs h=sp xs h:=by simp[cR]
def cU:List Int->Int
 | []=>0
 | e::r=>if e=0 then cU r else e
def nF:Spec:=fun
 | [.bool t,.int .i64 e],h=>some ⟨.int .i64 (if t then e else 0),h,[]⟩
 | _,_=>none
def jr:Spec:=fun
 | [v],h=>match iE h v with
   | some l=>if l.length<4611686018427387904 then some ⟨.int .i64 (cU l),h,[]⟩ else none
   | none=>none
 | _,_=>none
theorem ET {T:List (Nat×Spec)}(hft:F=FT)(t:Bool)(e:Int):aG (eY T inv F) 97 [.bool t,.int .i64 e] [] ⟨.int .i64 (if t then e else 0),[],[]⟩:=by
 refine ba (show F 97=_ from by rw[hft];exact EO) (by simp) ?_;unfold vk;simp only[enter];cases t;all_goals
  repeat' first|apply LL|apply aj|apply LM|apply LN|apply LP|apply LU|apply aF|(apply LS;rfl)|(apply LR;rfl)|(apply LK;rfl;rfl)|(apply LO;rfl;rfl)
 all_goals exact⟨.inr rfl,rfl,_,rfl,rfl,rfl⟩
theorem EU {l:List Int}{i:Nat}(h:i<l.length):cU (l.drop i)=if l[i]! = 0 then cU (l.drop (i+1)) else l[i]! := by
 rw[List.drop_eq_getElem_cons h,getElem!_pos l i h,cU]
theorem vm {T:List (Nat×Spec)}(l:List Int)(cap:Option Nat)(a0:AV)(hl:l.length<4611686018427387904)(hp:ae)(df:List Nat){Q:Ex->ak->Prop}:∀(r i:Nat),i+r=l.length->∀(a1 a2:AV) (lo:List (Nat×AV)) (wr:List Nat),
 (cU (l.drop i)=0->∀a2 lo wr,Q (.exit 0) ⟨⟨[a0,a1,a2,.vs (ints l) l.length cap,.int .i64 l.length,.int .i64 l.length],lo,hp,df⟩,wr⟩) ->
 (∀a2 a5 lo wr,Q .ret ⟨⟨[a0,.int .i64 (cU (l.drop i)),a2,.vs (ints l) l.length cap,.int .i64 l.length,a5],lo,hp,df⟩,wr⟩) ->
 W (eY T inv F) (.loop nE) ⟨⟨[a0,a1,a2,.vs (ints l) l.length cap,.int .i64 l.length,.int .i64 i],lo,hp,df⟩,wr⟩ Q
 | 0,i,hi,a1,a2,lo,wr,h1,h2=>by
  obtain rfl:i=l.length:=by omega
  refine W.loop ?_;unfold nE;repeat' first|apply LL|apply aj|apply LM|apply LN|apply Mi|apply bO|apply cE|(apply LR;rfl)|(apply Md;rfl;rfl)|(intro _;omega)|intro _
  exact h1 (by simp[cU]) _ _ _
 | r+1,i,hi,a1,a2,lo,wr,h1,h2=>by
  have e:=EU (l:=l) (i:=(i:Int).toNat) (by omega);rw[Int.toNat_natCast]at e;refine W.loop ?_;unfold nE;repeat' first|apply LL|apply aj|apply LM|apply LN|apply LW|apply LP|apply LU|apply aF|apply aZ|apply bX|apply dx|(apply LS;rfl)|(apply LR;rfl)|(apply Md;rfl;rfl)|(apply Mh;rfl;rfl)|(apply Mk;rfl;rfl;omega)|(apply MB;rfl;rfl;omega)|(apply ML;rfl;exact fun _=>rfl;(first|omega|(simp only[List.length_set];omega)|(simp;omega));decide;rfl;case ia=>infer_instance)|(apply LK;rfl;rfl)|(apply LO;rfl;rfl)|(intro _;omega)|intro _
  . rename_i hne;rw[Int.toNat_natCast]at hne;rw[if_neg hne]at e;rw[e]at h2;exact h2 _ _ _ _
  . rename_i he;rw[Int.toNat_natCast]at he;rw[if_pos he]at e;rw[e]at h1 h2;exact ji (vm l cap a0 hl hp df r (i+1) (by omega) _ _ _ _ h1 h2)
theorem EV {T:List (Nat×Spec)}(hft:F=FT)(l:List Int)(cap:Option Nat)(hl:l.length<4611686018427387904):aG (eY T inv F) 96 [.vs (ints l) l.length cap] [] ⟨.int .i64 (cU l),[],[]⟩:=by
 refine ba (show F 96=_ from by rw[hft];exact EP) (by simp) ?_;unfold vl;simp only[enter];repeat' first|apply LL|apply aj|apply LM|apply LN|apply LW|(apply LO;rfl;rfl)
 refine vm l cap _ hl _ _ l.length 0 (by omega) _ _ _ _ (fun h a2 lo wr=>?_) (fun a2 a5 lo wr=>?_)
 . repeat' first|apply LL|apply aj|apply LM|apply LN|apply LP|apply bR|(apply LO;rfl;rfl)
   exact⟨.inr rfl,rfl,_,rfl,by rw[List.drop_zero]at h;rw[h];rfl,rfl⟩
 . repeat' first|apply aF|apply bX
   exact⟨.inr rfl,rfl,_,rfl,rfl,rfl⟩
theorem vn:aQ Tryz.prog gl 97 nF:=by
 intro xs h r hq;unfold nF at hq;split at hq
 . cases hq;exact fK eX bc (ET (T:=[]) rfl _ _) (dt.same rfl) rfl (.inl rfl)
 . cases hq
theorem EW {f:Nat}(hw:∀(l:List Int) cap,l.length<4611686018427387904->aG (bq Tryz.prog FT []) f [.vs (ints l) l.length cap] [] ⟨.int .i64 (cU l),[],[]⟩):aQ Tryz.prog gl f jr:=by
 intro xs h r hq;unfold jr at hq;split at hq
 . split at hq
   . rename_i l hl;split at hq
     . rename_i hlen;cases hq;obtain⟨S,cap,hf⟩:=(Ds hl).fr (fun _=>rfl);exact fK eX bc (hw l cap hlen) (.cons hf .nil) rfl (.inr rfl)
     . cases hq
   . cases hq
 . cases hq
theorem vo:aQ Tryz.prog gl 96 jr:=EW fun l cap h=>EV (T:=[]) rfl l cap h
def vq:ao:=zR [⟨.p 2,.mv (kU 0),none⟩,⟨.p 3,.mv (kU 0),none⟩] (zR [zm 14 0,⟨.l 15,.bin .and (.l 14) (kU 4294967295),none⟩,zw 4 15] (zR [zm 16 0,⟨.l 17,.bin .shr (.l 16) (kU 32),none⟩,zw 5 17] (zR [zm 18 1,⟨.l 19,.bin .and (.l 18) (kU 4294967295),none⟩,zw 6 19] (zR [zm 20 1,⟨.l 21,.bin .shr (.l 20) (kU 32),none⟩,zw 7 21] (zR [zm 22 4,zm 23 6,zb 24 .mul 22 23,zw 8 24] (zR [zm 25 5,zm 26 6,zb 27 .mul 25 26,zm 28 8,⟨.l 29,.bin .shr (.l 28) (kU 32),none⟩,zb 30 .add 27 29,zw 9 30] (zR [zm 31 9,⟨.l 32,.bin .and (.l 31) (kU 4294967295),none⟩,zw 10 32] (zR [zm 33 9,⟨.l 34,.bin .shr (.l 33) (kU 32),none⟩,zw 11 34] (zR [zm 35 10,zm 36 4,zm 37 7,zb 38 .mul 36 37,zb 39 .add 35 38,zw 10 39] (zR [zm 40 5,zm 41 7,zb 42 .mul 40 41,zm 43 11,zb 44 .add 42 43,zm 45 10,⟨.l 46,.bin .shr (.l 45) (kU 32),none⟩,zb 47 .add 44 46,zw 2 47] (zR [zm 48 0,zm 49 1,zb 50 .mul 48 49,zw 3 50] (.ret))))))))))))
theorem EX:FT 244=some ⟨51,[0,1,4,5,6,7,8,9,10,11,12,13],[.var (.p 2),.var (.p 3)],vq⟩:=by kernel_rfl
end Go.Ab.Ch1

/-
  Own work: numbers by their digits to a base, the least significant one first: values, parts, changes of a digit, the length without zeros.
-/
namespace Go.Ab.aI
def WV (b:Int):List Int->Int
 | []=>0
 | x::l=>x+b*WV b l
def okW (b:Int)(l:List Int):Prop:=∀x∈l,0<=x/\x<b
theorem vt {b:Int}(hb:0<b)(n:Nat):0<b^n:=Int.pow_pos hb
theorem kf {b:Int}(hb:1<b){m n:Nat}(h:m<=n):b^m<=b^n:=by
 obtain⟨k,rfl⟩:∃k,n=m+k:=⟨n-m,by omega⟩;rw[Int.pow_add];have h1:=vt (show 0<b by omega) m;have h2:=vt (show 0<b by omega) k;have h3:b^m*1<=b^m*b^k:=Int.mul_le_mul_of_nonneg_left (by omega) (Int.le_of_lt h1);omega
def rf:List Int->Nat
 | []=>0
 | x::l=>if rf l=0 then (if x=0 then 0 else 1) else rf l+1
def EY (l:List Int):Prop:=rf l=l.length
end Go.Ab.aI

/-
  Own work: words of 64 binary digits: the product of two words.
-/
namespace Go.Ab.Ch1
open Go.Ab.aI
variable {M:ay} {cap c1 c2:Option Nat}
theorem EZ {x y:Int}(hx:0<=x/\x<18446744073709551616)(hy:0<=y/\y<18446744073709551616) :
 let x0:=x%4294967296;let x1:=x/4294967296;let y0:=y%4294967296;let y1:=y/4294967296
 (0<=x0*y0/\x0*y0<=18446744065119617025)/\(0<=x1*y0/\x1*y0<=18446744065119617025)/\(0<=x0*y1/\x0*y1<=18446744065119617025)/\(0<=x1*y1/\x1*y1<=18446744065119617025) /\
   x*y=x1*y1*18446744073709551616+(x1*y0+x0*y1)*4294967296+x0*y0:=by
 intro x0 x1 y0 y1;have a0:0<=x0/\x0<=4294967295:=by omega
 have a1:0<=x1/\x1<=4294967295:=by omega
 have b0:0<=y0/\y0<=4294967295:=by omega
 have b1:0<=y1/\y1<=4294967295:=by omega
 have up:∀{a b:Int},0<=a/\a<=4294967295->0<=b/\b<=4294967295->0<=a*b/\a*b<=18446744065119617025:=fun {a b} ha hb=>
  ⟨Int.mul_nonneg ha.1 hb.1,by have:=Int.mul_le_mul ha.2 hb.2 hb.1 (by omega);omega⟩
 refine⟨up a0 b0,up a1 b0,up a0 b1,up a1 b1,?_⟩;have ex:x=x1*4294967296+x0:=by omega
 have ey:y=y1*4294967296+y0:=by omega
 generalize x0=x0 at *
 generalize x1=x1 at *
 generalize y0=y0 at *
 generalize y1=y1 at *
 subst ex;subst ey;grind
theorem Fa (hft:M.FT=FT)(x y:Int)(hx:0<=x/\x<18446744073709551616)(hy:0<=y/\y<18446744073709551616):aG M 244 [.uV x,.uV y] [] ⟨.ar [.uV (x*y/18446744073709551616),.uV (x*y%18446744073709551616)],[],[]⟩:=by
 obtain⟨p0,p1,p2,p3,e⟩:=EZ hx hy;refine ba (by rw[hft];exact EX) (by simp) ?_;unfold vq;simp only[enter];repeat' first|(apply Ny;rfl;rfl;omega)|(apply Nb (n:=32) (c:=4294967296);rfl;rfl;rfl;decide;rfl)|(apply Nv;rfl;rfl;exact⟨by omega,by omega⟩)|(apply Nt;rfl;rfl;exact⟨by omega,by omega⟩)|(apply Nu;rfl;rfl)|apply LL|apply aj|apply LM|apply LN|apply LP|(apply LK;rfl;rfl)|(apply LO;rfl;rfl)
 refine⟨.inr rfl,rfl,_,rfl,?_,rfl⟩;refine congrArg (fun u=>AV.ar [.uV u,.uV (x*y%18446744073709551616)]) ?_;omega
abbrev uC (x:Int):List AV:=[.uV x]
abbrev lA (l:List Int):List AV:=arr uC l
abbrev wB:Int:=18446744073709551616
section
variable {t b m:Nat} {x y:aq} {l:List az} {pe:List AV} {lo:List (Nat×AV)} {hp:ae} {df wr:List Nat} {L:List Int} {e:TypeId} {v:Int} {Q:ak->Prop}
end
theorem vu (l:List Int):bg (lA l)=0:=iB (fun _=>rfl) l
def vv:ao:=zR [zi 1 0] (.seq (zR [zm 3 0,⟨.l 4,.bin .geq (.l 3) (kU 4294967296),none⟩] (.cond (.l 4) (zR [zm 5 0,⟨.l 6,.bin .shr (.l 5) (kU 32),none⟩,zw 0 6] (.region [zi 1 32])) (.skip))) (.seq (zR [zm 7 0,⟨.l 8,.bin .geq (.l 7) (kU 65536),none⟩] (.cond (.l 8) (zR [zm 9 0,⟨.l 10,.bin .shr (.l 9) (kU 16),none⟩,zw 0 10] (.region [zm 11 1,zc 12 .add 11 16,zw 1 12])) (.skip))) (.seq (zR [zm 13 0,⟨.l 14,.bin .geq (.l 13) (kU 256),none⟩] (.cond (.l 14) (zR [zm 15 0,⟨.l 16,.bin .shr (.l 15) (kU 8),none⟩,zw 0 16] (.region [zm 17 1,zc 18 .add 17 8,zw 1 18])) (.skip))) (zR [zm 19 1,zm 20 0,⟨.l 21,.dh .u8 (.l 20),none⟩,⟨.l 22,.index (.c (.str zD0)) (.l 21),none⟩,⟨.l 23,.dh .i64 (.l 22),none⟩,zb 24 .add 19 23,zw 1 24] (.ret)))))
theorem Fb:FT 240=some ⟨25,[0,2],[.var (.p 1)],vv⟩:=by kernel_rfl
def dn (x:Int):Nat:=if x=0 then 0 else x.toNat.log2+1
theorem Fc {x:Int}{n:Nat}(h:2^n<=x/\x<2^(n+1)):dn x=n+1:=by
 have h0:0<x:=by have:=Int.pow_pos (n:=2) (m:=n) (by decide);omega
 obtain⟨k,rfl⟩:=Int.eq_ofNat_of_zero_le (Int.le_of_lt h0);have hk:k≠0:=by omega
 rw[dn,if_neg (by omega)];have:(k:Int).toNat=k:=rfl;rw[this,(Nat.log2_eq_iff hk).2 ⟨by exact_mod_cast h.1,by exact_mod_cast h.2⟩]
theorem vw {x:Int}(h:0<x):1<=dn x/\2^(dn x-1)<=x/\x<2^dn x:=by
 obtain⟨k,rfl⟩:=Int.eq_ofNat_of_zero_le (Int.le_of_lt h);have hk:k≠0:=by omega
 rw[dn,if_neg (by omega)];have h1:=(Nat.log2_eq_iff hk).1 rfl;have:(k:Int).toNat=k:=rfl;rw[this];refine⟨by omega,?_,?_⟩
 . rw[Nat.add_sub_cancel];exact_mod_cast h1.1
 . exact_mod_cast h1.2
theorem vy {x:Int}{n:Nat}(h:x<2^n)(h0:0<=x):dn x<=n:=by
 by_cases hx:x=0
 . simp[dn,hx]
 . obtain⟨h1,h2,h3⟩:=vw (show 0<x by omega);rcases Nat.lt_or_ge n (dn x) with h4|h4
   . have:(2:Int)^n<=2^(dn x-1):=kf (by decide) (by omega);omega
   . exact h4
theorem Fe {x:Int}{s n:Nat}{u:Int}(hu:u=x/2^s)(h0:0<=x)(h:2^n<=u/\u<2^(n+1)):dn x=s+n+1:=by
 have hp:=Int.pow_pos (n:=2) (m:=s) (by decide);subst hu;refine Fc ⟨?_,?_⟩
 . have h1:=Int.mul_le_mul_of_nonneg_left h.1 (Int.le_of_lt hp);have h2:=Int.mul_ediv_self_le (x:=x) (k:=2^s) (by omega);rw[Int.pow_add];omega
 . have h1:2^s*(x/2^s+1)<=2^s*2^(n+1):=Int.mul_le_mul_of_nonneg_left (by omega) (Int.le_of_lt hp);have h2:=Int.lt_mul_ediv_self_add (x:=x) (k:=2^s) hp;rw[Int.mul_add]at h1;rw[show s+n+1=s+(n+1) by omega,Int.pow_add];omega
def gZ:ah:=[0,1,2,2,3,3,3,3,4,4,4,4,4,4,4,4,5,5,5,5,5,5,5,5,5,5,5,5,5,5,5,5]++List.replicate 32 6++List.replicate 64 7++List.replicate 128 8
theorem Ff:∀k:Fin 256,0<k.val->1<=(gZ[k.val]!).toNat/\2^((gZ[k.val]!).toNat-1)<=k.val/\k.val<2^((gZ[k.val]!).toNat-1+1):=by decide +kernel
theorem Fg {u:Int}(h0:0<u)(h:u<256):∃n:Nat,(gZ[u.toNat]!).toNat=n+1/\(2:Int)^n<=u/\u<2^(n+1):=by
 obtain⟨k,rfl⟩:=Int.eq_ofNat_of_zero_le (Int.le_of_lt h0);obtain⟨h1,h2,h3⟩:=Ff ⟨k,by omega⟩ (by simpa using h0);refine⟨(gZ[k]!).toNat-1,by simp only at h1;rw[show (k:Int).toNat=k from rfl];omega,?_,?_⟩
 . exact_mod_cast h2
 . exact_mod_cast h3
set_option maxRecDepth 100000 in
theorem Fh (hft:M.FT=FT)(x:Int)(hx:0<=x/\x<18446744073709551616):aG M 240 [.uV x] [] ⟨.iV (dn x),[],[]⟩:=by
 have key:∀(u:Int) (s:Nat),u=x/2^s->(0<u/\u<256)->((gZ[u.toNat]!).toNat:Int)+s=dn x:=fun u s hu h=>by
  obtain⟨n,e,h2⟩:=Fg h.1 h.2;rw[Fe hu hx.1 h2,e];omega
 have tl:gZ.length=256:=by decide +kernel
 have tb:∀k:Nat,(gZ[k]!).toNat<256:=fun k=>UInt8.toNat_lt _
 refine ba (by rw[hft];exact Fb) (by simp) ?_;unfold vv;simp only[enter];repeat' first|(apply Nb (n:=32) (c:=4294967296);rfl;rfl;rfl;decide;rfl)|(apply Nb (n:=16) (c:=65536);rfl;rfl;rfl;decide;rfl)|(apply Nb (n:=8) (c:=256);rfl;rfl;rfl;decide;rfl)|(apply Nn;rfl)|(apply Mn (s:=gZ);rfl;rfl;omega)|(apply Na;rfl;(have:=tb;refine⟨by omega,?_⟩;exact Int.lt_trans (Int.ofNat_lt.2 (tb _)) (by decide)))|(apply Mk;rfl;rfl;exact⟨Int.le_trans (by decide) (Int.add_nonneg (by decide) (Int.natCast_nonneg _)),Int.lt_of_le_of_lt (Int.add_le_add (Int.le_refl _) (Int.ofNat_le.2 (Nat.le_of_lt (tb _)))) (by decide)⟩)|(apply Mk;rfl;rfl;omega)|apply LL|apply aj|apply LM|apply LN|apply LP|apply LU|(apply LS;rfl)|(apply LR;rfl)|(apply Mx;rfl;rfl)|(apply LK;rfl;rfl)|(apply LO;rfl;rfl)|(intro _;omega)|intro _
 all_goals try omega
 all_goals refine⟨.inr rfl,rfl,_,rfl,congrArg (fun z=>AV.iV z) ?_,rfl⟩
 . have e:x/4294967296/65536/256%256=x/4294967296/65536/256:=by omega
   rw[e,←key (x/4294967296/65536/256) 56 (by rw[show (2:Int)^56=72057594037927936 from rfl];omega) ⟨by omega,by omega⟩];omega
 . have e:x/4294967296/65536%256=x/4294967296/65536:=by omega
   rw[e,←key (x/4294967296/65536) 48 (by rw[show (2:Int)^48=281474976710656 from rfl];omega) ⟨by omega,by omega⟩];omega
 . have e:x/4294967296/256%256=x/4294967296/256:=by omega
   rw[e,←key (x/4294967296/256) 40 (by rw[show (2:Int)^40=1099511627776 from rfl];omega) ⟨by omega,by omega⟩];omega
 . have e:x/4294967296%256=x/4294967296:=by omega
   rw[e,←key (x/4294967296) 32 (by rw[show (2:Int)^32=4294967296 from rfl]) ⟨by omega,by omega⟩];omega
 . have e:x/65536/256%256=x/65536/256:=by omega
   rw[e,←key (x/65536/256) 24 (by rw[show (2:Int)^24=16777216 from rfl];omega) ⟨by omega,by omega⟩];omega
 . have e:x/65536%256=x/65536:=by omega
   rw[e,←key (x/65536) 16 (by rw[show (2:Int)^16=65536 from rfl]) ⟨by omega,by omega⟩];omega
 . have e:x/256%256=x/256:=by omega
   rw[e,←key (x/256) 8 (by rw[show (2:Int)^8=256 from rfl]) ⟨by omega,by omega⟩];omega
 . by_cases h0:x=0
   . subst h0;decide +kernel
   . have e:x%256=x:=by omega
     rw[e,←key x 0 (by simp) ⟨by omega,by omega⟩];omega
variable {y1 y0 v w q r:Int}
section
variable {t m:Nat} {x y:aq} {l:List az} {pe:List AV} {lo:List (Nat×AV)} {hp:ae} {df wr:List Nat} {L:List Int} {e:TypeId} {a b:Int} {Q:ak->Prop}
end
end Go.Ab.Ch1

/-
  Own work: Knuth's division: the guess of a digit is at most one too great.
-/
namespace Go.Ab.aI
structure vz (t2 t1 t0 v1 v0 T V p:Int):Prop where
 h2:0<=t2
 h1:0<=t1/\t1<18446744073709551616
 h0:0<=t0/\t0<18446744073709551616
 w1:9223372036854775808<=v1/\v1<18446744073709551616
 w0:0<=v0/\v0<18446744073709551616
 hp:1<=p
 lo:((t2*18446744073709551616+t1)*18446744073709551616+t0)*p<=T
 hi:T<((t2*18446744073709551616+t1)*18446744073709551616+t0+1)*p
 LG:(v1*18446744073709551616+v0)*p<=V
 Fi:V<(v1*18446744073709551616+v0+1)*p
 hT:T<18446744073709551616*V
variable {t2 t1 t0 v1 v0 T V p q r:Int}
theorem vz.top (C:vz t2 t1 t0 v1 v0 T V p):t2<=v1:=by
 have h1:=C.h1;have h0:=C.h0;have w0:=C.w0;have a1:((t2*18446744073709551616+t1)*18446744073709551616+t0)*p<(18446744073709551616*(v1*18446744073709551616+v0+1))*p:=by
  have:=C.lo;have:=C.hT;have:=C.Fi;rw[Int.mul_assoc 18446744073709551616];omega
 have a2:=Int.lt_of_mul_lt_mul_right a1 (by have:=C.hp;omega);omega
end Go.Ab.aI

/-
  Own work: words of integers: a digit of a quotient (Knuth's step): the loops.
-/
namespace Go.Ab.Ch1
open Go.Ab.aI
variable {M:ay} {cu cv:Option Nat}
section
variable {t bu bv m:Nat} {x y:aq} {l:List az} {pe:List AV} {lo:List (Nat×AV)} {hp:ae} {df wr:List Nat} {P S X V Y:List Int} {e e':TypeId} {v:Int} {Q:ak->Prop}
end
variable {bu bv k:Nat} {e e':TypeId} {hp:ae} {P S X V Y:List Int}
variable {j:Nat} {U:List Int}
variable {cap c1 c2:Option Nat}
def vA (x:AV)(l:List Int):Prop:=x = .vs (lA l) l.length none\/(x = .al/\l=[])
theorem Fj (l:List Int):cI (lA l)=lA l:=nA (fun _=>rfl) l
inductive gD:AV->Int->Prop
 | small {s:Int} (h : -9223372036854775808<=s/\s<9223372036854775808):gD (.agg [.int .i64 s,.al]) s
 | Fk {σ z:Int} {w:List Int} (hs:σ=1\/σ = -1) (ok:okW wB w) (nr:EY w) (hw:9223372036854775808<=WV wB w) (hz:z=σ*WV wB w):gD (.agg [.int .i64 σ,.vs (lA w) w.length none]) z
def rh (v:AV)(hh:ae)(v0:AV):Prop:=∃v1,eg hh v v1/\v1.top=0/\bE v1=v0
def kg (M:ay)(g:Nat)(ars:List AV)(v0:AV):Prop:=∃v hh,rh v hh v0/\aG M g ars [] ⟨v,hh,[]⟩
set_option maxRecDepth 1000000
variable {N:Nat}
theorem gD.shape {v:AV}{z:Int}(h:gD v z):∃s w,v = .agg [.iV s,w]/\cF w=true/\w.top=0/\bE w=w:=by
 cases h with
 | small=>exact⟨_,_,rfl,rfl,rfl,rfl⟩
 | @Fk σ z w=>exact⟨_,_,rfl,rfl,vu _,by rw[bE,Fj]⟩
theorem gD.one {s:Int}{w:AV}{z:Int}(h:gD (.agg [.iV s,w]) z):cF w=true/\w.top=0/\bE w=w:=by
 obtain⟨s',w',e,h⟩:=h.shape;cases e;exact h
def nG (v:AV)(n d:Int):Prop:=∃s w s' w',v = .agg [.iV s,w,.iV s',w']/\gD (.agg [.iV s,w]) n/\gD (.agg [.iV s',w']) d
section
variable {t n m:Nat} {x y:aq} {l:List az} {pe:List AV} {lo:List (Nat×AV)} {H:ae} {df wr:List Nat} {c c' new:List AV} {a:Option aP} {Q:ak->Prop}
end
def lB (v:AV)(q:Rat):Prop:=nG v q.num q.den
theorem vB {n:Int}:(Rat.divInt n 1).num=n/\(Rat.divInt n 1).den=1:=by
 refine⟨?_,?_⟩
 . rw[Rat.num_divInt];simp
 . rw[Rat.den_divInt];simp
variable {N2:Nat}
theorem lB.one {v:AV}{n:Int}(h:nG v n 1):lB v (Rat.divInt n 1):=by
 unfold lB;rw[vB.1,vB.2];exact h
section
variable {t:Nat} {x y:aq} {l:List az} {pe:List AV} {lo:List (Nat×AV)} {df wr:List Nat} {a:Int} {k:IntKind} {Q:ak->Prop}
end
variable {P:Program} {T:List (Nat×Spec)} {g:Nat}
theorem kg.runK {ars:List AV}{v0:AV}(h:kg (bq P FT T) g ars v0)(ht:bg ars=0):qB P FT T g ars v0:=by
 obtain⟨v,hh,⟨v1,h1,h2,h3⟩,hr⟩:=h;exact⟨v,hh,v1,hr,h1,ht,h2,h3⟩
theorem kg.eq {ars:List AV}{v0:AV}{hp:ae}(h:kg (bq P FT T) g ars v0)(ht:bg ars=0):lz P FT T g ars hp=some ⟨v0,hp,[]⟩:=uX (h.runK ht)
theorem vA.top {x:AV}{l:List Int}(h:vA x l):x.top=0:=by
 rcases h with rfl|⟨rfl,rfl⟩
 . exact vu l
 . rfl
theorem gD.top {v:AV}{z:Int}(h:gD v z):v.top=0:=by
 obtain⟨s,w,rfl,_,t,_⟩:=h.shape;simp[AV.top,bg,t]
theorem lB.top {v:AV}{q:Rat}(h:lB v q):v.top=0:=by
 obtain⟨s,w,s',w',rfl,h1,h2⟩:=h;have t1:=h1.one.2.1;have t2:=h2.one.2.1;simp[AV.top,bg,t1,t2]
open Go.Proofs
noncomputable abbrev sK (T:List (Nat×Spec))(g:Nat):Spec:=lz Tryz.prog FT T g
theorem bD {g:Nat}(hT:cQ Tryz.prog gl (cR T)):aQ Tryz.prog gl g (sK T g):=DI eX hT
noncomputable def nH:Spec:=sK [] 244
theorem Fl:aQ Tryz.prog gl 244 nH:=bD bc
theorem Fm:∀(x y:Int) h,(0<=x/\x<18446744073709551616)->(0<=y/\y<18446744073709551616)->nH [.uV x,.uV y] h=some ⟨.ar [.uV (x*y/18446744073709551616),.uV (x*y%18446744073709551616)],h,[]⟩:=fun x y h hx hy=>bC (Fa bw x y hx hy) rfl rfl rfl h
noncomputable def ri:Spec:=sK [] 240
theorem Fo:aQ Tryz.prog gl 240 ri:=bD bc
theorem Fp:∀(x:Int) h,(0<=x/\x<18446744073709551616)->ri [.uV x] h=some ⟨.iV (dn x),h,[]⟩:=fun x h hx=>bC (Fh bw x hx) rfl rfl rfl h
theorem nG.top {v:AV}{n d:Int}(h:nG v n d):v.top=0:=by
 obtain⟨s,w,s',w',rfl,h1,h2⟩:=h;have t1:=h1.one.2.1;have t2:=h2.one.2.1;simp[AV.top,bg,t1,t2]
def vC:ao:=zR [⟨.p 1,.mv (.c (.str [])),none⟩] (zR [zm 3 0,z1 4 226 3,zw 1 4] (.ret))
theorem Fq:FT 183=some ⟨5,[0,2],[.var (.p 1)],vC⟩:=by kernel_rfl
def vD:ao:=zR [⟨.p 1,.mv (.c (.str [])),none⟩] (zR [zm 3 0,⟨.l 4,.call (kF 267) [(.l 3),(kI 10)],none⟩,zw 1 4] (.ret))
theorem Fs:FT 226=some ⟨5,[0,2],[.var (.p 1)],vD⟩:=by kernel_rfl
def vE:ao:=zR [⟨.p 1,.mv (.c (.str [])),none⟩] (.seq (zR [zm 3 0,zc 4 .lss 3 10] (.cond (.l 4) (zR [zm 5 0,zm 6 0,zc 7 .add 6 1,⟨.l 8,.slice .str 1 (.c (.str zD1)) (some (.l 5)) (some (.l 7)) none,none⟩,zw 1 8] (.ret)) (.skip))) (zR [zm 9 0,zc 10 .mul 9 2,zm 11 0,zc 12 .mul 11 2,zc 13 .add 12 2,⟨.l 14,.slice .str 1 (.c (.str zD2)) (some (.l 10)) (some (.l 13)) none,none⟩,zw 1 14] (.ret)))
theorem Ft:FT 304=some ⟨15,[0,2],[.var (.p 1)],vE⟩:=by kernel_rfl
def vF:ao:=zR [⟨.p 2,.mv (.c (.str [])),none⟩] (.seq (zR [zm 10 1,zc 11 .eql 10 10] (.cond (.l 11) (.seq (zR [zm 12 0,⟨.l 13,.bin .leq (kI 0) (.l 12),none⟩,zn 14 13,zg (zm 15 0) 14 true,zg (zc 16 .lss 15 100) 14 true,zp 17 14 16] (.cond (.l 17) (zR [zm 18 0,z1 19 304 18,zw 2 19] (.ret)) (.skip))) (zR [⟨.p 3,.alloc 301 [.int .u8 (0),.int .u8 (0),.int .u8 (0),.int .u8 (0),.int .u8 (0),.int .u8 (0),.int .u8 (0),.int .u8 (0),.int .u8 (0),.int .u8 (0),.int .u8 (0),.int .u8 (0),.int .u8 (0),.int .u8 (0),.int .u8 (0),.int .u8 (0),.int .u8 (0),.int .u8 (0),.int .u8 (0),.int .u8 (0),.int .u8 (0),.int .u8 (0),.int .u8 (0),.int .u8 (0)],none⟩] (zR [zm 20 0,⟨.l 21,.dh .u64 (.l 20),none⟩,zw 4 21] (.seq (zR [zm 22 0,zc 23 .lss 22 0] (.cond (.l 23) (.region [zm 24 4,⟨.l 25,.un .neg (.l 24),none⟩,zw 4 25]) (.skip))) (zR [zm 26 4,z1 27 305 26,zw 5 27] (zR [zm 28 5,⟨.l 29,.bin .add (kI 1) (.l 28),none⟩,⟨.l 30,.fB 24 1 (.p 3) (some (kI 1)) (some (.l 29)),none⟩,zm 31 4,z2 32 306 30 31] (.seq (zR [zm 33 0,zc 34 .lss 33 0] (.cond (.l 34) (zR [⟨.l 35,.dE (some 24) 1 (.p 3) (kI 0),none⟩,⟨.no,.store 1 (.l 35) (.c (.int .u8 (45))),none⟩] (zR [zm 36 5,⟨.l 37,.bin .add (kI 1) (.l 36),none⟩,⟨.l 38,.fB 24 1 (.p 3) none (some (.l 37)),none⟩,⟨.l 39,.hY (.l 38),none⟩,zw 2 39] (.ret))) (.skip))) (zR [zm 40 5,⟨.l 41,.bin .add (kI 1) (.l 40),none⟩,⟨.l 42,.fB 24 1 (.p 3) (some (kI 1)) (some (.l 41)),none⟩,⟨.l 43,.hY (.l 42),none⟩,zw 2 43] (.ret))))))))) (.skip))) (zR [zm 45 0,⟨.l 46,.dh .u64 (.l 45),none⟩,zm 47 1,zm 48 0,zc 49 .lss 48 0,⟨.l 50,.call (kF 307) [(.c (.al)),(.l 46),(.l 47),(.l 49),(.c (.bool false))],none⟩,zn 44 50,ze 51 0 44,ze 52 1 44,zn 8 51,zw 6 52] (zR [zm 53 6,zw 2 53] (.ret))))
theorem Fu:FT 267=some ⟨54,[0,1,4,5,6,7,9],[.var (.p 2)],vF⟩:=by kernel_rfl
def vG:ao:=zR [zi 1 0] (zR [zm 4 0,z1 5 240 4,z1 6 324 5,zw 2 6] (zR [zm 7 2,zm 8 0,zm 9 2,⟨.l 10,.dE (some 20) 1 (.c (.vp [.uV (1),.uV (10),.uV (100),.uV (1000),.uV (10000),.uV (100000),.uV (1000000),.uV (10000000),.uV (100000000),.uV (1000000000),.uV (10000000000),.uV (100000000000),.uV (1000000000000),.uV (10000000000000),.uV (100000000000000),.uV (1000000000000000),.uV (10000000000000000),.uV (100000000000000000),.uV (1000000000000000000),.uV (10000000000000000000)])) (.l 9),none⟩,zd 11 1 10,zb 12 .geq 8 11,z1 13 325 12,zb 14 .add 7 13,zw 1 14] (.ret)))
theorem Fv:FT 305=some ⟨15,[0,2,3],[.var (.p 1)],vG⟩:=by kernel_rfl
def nI:ao:=.seq (zR [zm 19 2,zc 20 .geq 19 8] (.cond (.l 20) (.skip) (.exit 0))) (.block 1 (zR [zm 21 1,⟨.l 22,.bin .rem (.l 21) (kU 100000000),none⟩,⟨.l 23,.dh .u32 (.l 22),none⟩,zw 3 23] (zR [zm 24 1,⟨.l 25,.bin .quo (.l 24) (kU 100000000),none⟩,zw 1 25] (zR [zm 26 3,⟨.l 27,.bin .quo (.l 26) (kW 10000),none⟩,zm 28 3,⟨.l 29,.bin .rem (.l 28) (kW 10000),none⟩,zw 4 27,zw 5 29] (zR [zm 30 5,⟨.l 31,.bin .quo (.l 30) (kW 100),none⟩,⟨.l 32,.bin .mul (.l 31) (kW 2),none⟩,zm 33 5,⟨.l 34,.bin .rem (.l 33) (kW 100),none⟩,⟨.l 35,.bin .mul (.l 34) (kW 2),none⟩,zw 6 32,zw 7 35] (zR [zm 36 4,⟨.l 37,.bin .quo (.l 36) (kW 100),none⟩,⟨.l 38,.bin .mul (.l 37) (kW 2),none⟩,zm 39 4,⟨.l 40,.bin .rem (.l 39) (kW 100),none⟩,⟨.l 41,.bin .mul (.l 40) (kW 2),none⟩,zw 8 38,zw 9 41] (.seq (.draw [(zm 42 0,[]),(zm 43 2,[0]),(zc 44 .sub 43 1,[0]),(zm 45 0,[0,1,2]),(zm 46 2,[0,1,2,3]),(zc 47 .sub 46 2,[0,1,2,3]),(zm 48 7,[0,1,2,3,4,5]),(⟨.l 49,.bin .add (.l 48) (kW 1),none⟩,[0,1,2,3,4,5]),(⟨.l 50,.index (.c (.str zD2)) (.l 49),none⟩,[0,1,2,3,4,5]),(zm 51 7,[0,1,2,3,4,5,6,7,8]),(⟨.l 52,.index (.c (.str zD2)) (.l 51),none⟩,[0,1,2,3,4,5,6,7,8]),(za 53 1 42 44,[3,4,5,9,10]),(zS 1 53 50,[3,4,5,9,10]),(za 54 1 45 47,[]),(zS 1 54 52,[])]) (.seq (.draw [(zm 55 0,[]),(zm 56 2,[0]),(zc 57 .sub 56 3,[0]),(zm 58 0,[0,1,2]),(zm 59 2,[0,1,2,3]),(zc 60 .sub 59 4,[0,1,2,3]),(zm 61 6,[0,1,2,3,4,5]),(⟨.l 62,.bin .add (.l 61) (kW 1),none⟩,[0,1,2,3,4,5]),(⟨.l 63,.index (.c (.str zD2)) (.l 62),none⟩,[0,1,2,3,4,5]),(zm 64 6,[0,1,2,3,4,5,6,7,8]),(⟨.l 65,.index (.c (.str zD2)) (.l 64),none⟩,[0,1,2,3,4,5,6,7,8]),(za 66 1 55 57,[3,4,5,9,10]),(zS 1 66 63,[3,4,5,9,10]),(za 67 1 58 60,[]),(zS 1 67 65,[])]) (.seq (.draw [(zm 68 0,[]),(zm 69 2,[0]),(zc 70 .sub 69 5,[0]),(zm 71 0,[0,1,2]),(zm 72 2,[0,1,2,3]),(zc 73 .sub 72 6,[0,1,2,3]),(zm 74 9,[0,1,2,3,4,5]),(⟨.l 75,.bin .add (.l 74) (kW 1),none⟩,[0,1,2,3,4,5]),(⟨.l 76,.index (.c (.str zD2)) (.l 75),none⟩,[0,1,2,3,4,5]),(zm 77 9,[0,1,2,3,4,5,6,7,8]),(⟨.l 78,.index (.c (.str zD2)) (.l 77),none⟩,[0,1,2,3,4,5,6,7,8]),(za 79 1 68 70,[3,4,5,9,10]),(zS 1 79 76,[3,4,5,9,10]),(za 80 1 71 73,[]),(zS 1 80 78,[])]) (.seq (.draw [(zm 81 0,[]),(zm 82 2,[0]),(zc 83 .sub 82 7,[0]),(zm 84 0,[0,1,2]),(zm 85 2,[0,1,2,3]),(zc 86 .sub 85 8,[0,1,2,3]),(zm 87 8,[0,1,2,3,4,5]),(⟨.l 88,.bin .add (.l 87) (kW 1),none⟩,[0,1,2,3,4,5]),(⟨.l 89,.index (.c (.str zD2)) (.l 88),none⟩,[0,1,2,3,4,5]),(zm 90 8,[0,1,2,3,4,5,6,7,8]),(⟨.l 91,.index (.c (.str zD2)) (.l 90),none⟩,[0,1,2,3,4,5,6,7,8]),(za 92 1 81 83,[3,4,5,9,10]),(zS 1 92 89,[3,4,5,9,10]),(za 93 1 84 86,[]),(zS 1 93 91,[])]) (.region [zm 94 2,zc 95 .sub 94 8,zw 2 95])))))))))))
def vH:ao:=zR [zm 17 0,zl 18 17,zw 2 18] (.seq (.block 0 (.loop nI)) (zR [zm 96 1,⟨.l 97,.dh .u32 (.l 96),none⟩,zw 10 97] (.seq (zR [zm 98 2,zc 99 .geq 98 4] (.cond (.l 99) (zR [zm 100 10,⟨.l 101,.bin .rem (.l 100) (kW 10000),none⟩,zw 11 101] (zR [zm 102 10,⟨.l 103,.bin .quo (.l 102) (kW 10000),none⟩,zw 10 103] (zR [zm 104 11,⟨.l 105,.bin .quo (.l 104) (kW 100),none⟩,⟨.l 106,.bin .mul (.l 105) (kW 2),none⟩,zm 107 11,⟨.l 108,.bin .rem (.l 107) (kW 100),none⟩,⟨.l 109,.bin .mul (.l 108) (kW 2),none⟩,zw 12 106,zw 13 109] (.seq (.draw [(zm 110 0,[]),(zm 111 2,[0]),(zc 112 .sub 111 1,[0]),(zm 113 0,[0,1,2]),(zm 114 2,[0,1,2,3]),(zc 115 .sub 114 2,[0,1,2,3]),(zm 116 13,[0,1,2,3,4,5]),(⟨.l 117,.bin .add (.l 116) (kW 1),none⟩,[0,1,2,3,4,5]),(⟨.l 118,.index (.c (.str zD2)) (.l 117),none⟩,[0,1,2,3,4,5]),(zm 119 13,[0,1,2,3,4,5,6,7,8]),(⟨.l 120,.index (.c (.str zD2)) (.l 119),none⟩,[0,1,2,3,4,5,6,7,8]),(za 121 1 110 112,[3,4,5,9,10]),(zS 1 121 118,[3,4,5,9,10]),(za 122 1 113 115,[]),(zS 1 122 120,[])]) (.seq (.draw [(zm 123 0,[]),(zm 124 2,[0]),(zc 125 .sub 124 3,[0]),(zm 126 0,[0,1,2]),(zm 127 2,[0,1,2,3]),(zc 128 .sub 127 4,[0,1,2,3]),(zm 129 12,[0,1,2,3,4,5]),(⟨.l 130,.bin .add (.l 129) (kW 1),none⟩,[0,1,2,3,4,5]),(⟨.l 131,.index (.c (.str zD2)) (.l 130),none⟩,[0,1,2,3,4,5]),(zm 132 12,[0,1,2,3,4,5,6,7,8]),(⟨.l 133,.index (.c (.str zD2)) (.l 132),none⟩,[0,1,2,3,4,5,6,7,8]),(za 134 1 123 125,[3,4,5,9,10]),(zS 1 134 131,[3,4,5,9,10]),(za 135 1 126 128,[]),(zS 1 135 133,[])]) (.region [zm 136 2,zc 137 .sub 136 4,zw 2 137])))))) (.skip))) (.seq (zR [zm 138 2,zc 139 .geq 138 2] (.cond (.l 139) (zR [zm 140 10,⟨.l 141,.bin .rem (.l 140) (kW 100),none⟩,⟨.l 142,.bin .mul (.l 141) (kW 2),none⟩,zw 14 142] (zR [zm 143 10,⟨.l 144,.bin .quo (.l 143) (kW 100),none⟩,zw 10 144] (.seq (.draw [(zm 145 0,[]),(zm 146 2,[0]),(zc 147 .sub 146 1,[0]),(zm 148 0,[0,1,2]),(zm 149 2,[0,1,2,3]),(zc 150 .sub 149 2,[0,1,2,3]),(zm 151 14,[0,1,2,3,4,5]),(⟨.l 152,.bin .add (.l 151) (kW 1),none⟩,[0,1,2,3,4,5]),(⟨.l 153,.index (.c (.str zD2)) (.l 152),none⟩,[0,1,2,3,4,5]),(zm 154 14,[0,1,2,3,4,5,6,7,8]),(⟨.l 155,.index (.c (.str zD2)) (.l 154),none⟩,[0,1,2,3,4,5,6,7,8]),(za 156 1 145 147,[3,4,5,9,10]),(zS 1 156 153,[3,4,5,9,10]),(za 157 1 148 150,[]),(zS 1 157 155,[])]) (.region [zm 158 2,zc 159 .sub 158 2,zw 2 159])))) (.skip))) (zR [zm 160 2,zc 161 .gtr 160 0] (.cond (.l 161) (.region [zm 162 0,zm 163 10,⟨.l 164,.bin .add (kW 48) (.l 163),none⟩,⟨.l 165,.dh .u8 (.l 164),none⟩,⟨.l 166,.dE none 1 (.l 162) (kI 0),none⟩,zS 1 166 165]) (.skip)))))))
theorem Fw:FT 306=some ⟨167,[0,1,4,5,6,7,8,9,10,11,12,13,14,15,16],[],vH⟩:=by kernel_rfl
def vI:ao:=zR [zi 1 0] (zR [zm 3 0,zc 4 .mul 3 78913,⟨.l 5,.bin .shr (.l 4) (kU 18),none⟩,zw 1 5] (.ret))
theorem Fx:FT 324=some ⟨6,[0,2],[.var (.p 1)],vI⟩:=by kernel_rfl
def vJ:ao:=zR [zi 1 0] (.seq (zR [zm 3 0] (.cond (.l 3) (zR [zi 1 1] (.ret)) (.skip))) (zR [zi 1 0] (.ret)))
theorem Fy:FT 325=some ⟨4,[0,2],[.var (.p 1)],vJ⟩:=by kernel_rfl
end Go.Ab.Ch1

/-
  Own work: decimal texts of natural numbers: digits, texts, values.
-/
namespace Go.Ab.aI
def cz (d:Nat):UInt8:=UInt8.ofNat (48+d)
def bz:Nat->Nat->ah
 | 0,_=>[]
 | k+1,n=>bz k (n/10)++[cz (n%10)]
def bo (n:Nat):ah:=if n<10 then [cz n] else bo (n/10)++[cz (n%10)]
termination_by n
decreasing_by omega
def bK (n:Nat)(s:ah):Nat:=s.foldl (fun n b=>10*n+(b.toNat-48)) n
def nJ (c:Nat):Bool:=48<=c && c<58
abbrev bL (b:UInt8):Bool:=nJ b.toNat
theorem iJ (b:UInt8):bL b=true↔48<=b.toNat/\b.toNat<58:=by simp[bL,nJ]
theorem lC {d:Nat}(h:d<10):(cz d).toNat=48+d:=by simp[cz];omega
theorem vK {d:Nat}(h:d<10):bL (cz d)=true:=by rw[iJ,lC h];omega
theorem Fz {b:UInt8}(h:bL b=true):cz (b.toNat-48)=b:=by
 rw[iJ]at h;apply UInt8.toNat_inj.1;rw[lC (by omega)];omega
theorem gh:∀(k n:Nat),(bz k n).length=k
 | 0,_=>rfl
 | k+1,n=>by simp[bz,gh k]
theorem rj:∀{k n j:Nat},j<k->(bz k n)[j]! = cz (n/10^(k-1-j)%10)
 | k+1,n,j,h=>by
  rw[bz];by_cases hj:j<k
  . have h1:j<(bz k (n/10)).length:=by rw[gh];exact hj
    have e:(bz k (n/10)++[cz (n%10)])[j]! = (bz k (n/10))[j]! := by
     simp only[List.getElem!_eq_getElem?_getD,List.getElem?_append_left h1]
    rw[e,rj hj,show k+1-1-j=(k-1-j)+1 by omega,Nat.pow_succ,Nat.mul_comm,←Nat.div_div_eq_div_mul]
  . obtain rfl:j=k:=by omega
    have e:(bz j (n/10)++[cz (n%10)])[j]! = cz (n%10):=by
     simp only[List.getElem!_eq_getElem?_getD];rw[List.getElem?_append_right (by rw[gh];exact Nat.le_refl _),gh];simp
    rw[e];simp
theorem vL {k n:Nat}{s:ah}(hl:s.length=k)(h:∀j,j<k->s[j]! = cz (n/10^(k-1-j)%10)):s=bz k n:=by
 apply List.ext_getElem (by rw[hl,gh]);intro i h1 h2;have e1:=h i (by omega);have e2:=rj (n:=n) (show i<k by omega);rw[←e2]at e1;simpa[List.getElem!_eq_getElem?_getD,List.getElem?_eq_getElem h1,List.getElem?_eq_getElem h2] using e1
theorem kh {n:Nat}(h:n<10):bo n=[cz n]:=by rw[bo,if_pos h]
theorem lD {n:Nat}(h:¬n<10):bo n=bo (n/10)++[cz (n%10)]:=by rw[bo,if_neg h]
theorem rk:∀{k n:Nat},n<10^(k+1)->(k=0\/10^k<=n)->bo n=bz (k+1) n
 | 0,n,h,_=>by
  have h:n<10:=by simpa using h
  rw[kh h];simp[bz,Nat.mod_eq_of_lt h]
 | k+1,n,h,h2=>by
  have h2:10^(k+1)<=n:=h2.resolve_left (by omega);rw[Nat.pow_succ]at h h2;have hp:0<10^k:=Nat.pow_pos (by decide);rw[lD (by omega),rk (k:=k) (n:=n/10) (by omega) (.inr (by omega))];rfl
theorem nK (n:Nat)(s t:ah):bK n (s++t)=bK (bK n s) t:=by simp[bK,List.foldl_append]
theorem lE (n:Nat)(b:UInt8)(s:ah):bK n (b::s)=bK (10*n+(b.toNat-48)) s:=by rw[bK,bK,List.foldl_cons]
theorem nL (n:Nat)(b:UInt8):bK n [b]=10*n+(b.toNat-48):=by rw[bK,List.foldl_cons,List.foldl_nil]
theorem FA (s:ah):∀(n:Nat),bK n s=n*10^s.length+bK 0 s:=by
 induction s with
 | nil=>intro n;simp[bK]
 | cons b s ih=>
  intro n;rw[lE,lE,ih,ih (10*0+_),List.length_cons,Nat.pow_succ,Nat.add_mul];have:10*n*10^s.length=n*(10^s.length*10):=by rw[Nat.mul_comm 10 n,Nat.mul_assoc,Nat.mul_comm 10]
  rw[this];simp only[Nat.mul_zero,Nat.zero_add];omega
theorem nM (s:ah):s.all bL=true->bK 0 s<10^s.length:=by
 induction s with
 | nil=>intro _;simp[bK]
 | cons b s ih=>
  intro h;simp only[List.all_cons,Bool.and_eq_true]at h;have hb:=(iJ b).1 h.1;have:=ih h.2;rw[lE,FA,List.length_cons,Nat.pow_succ];have h2:(10*0+(b.toNat-48))*10^s.length<=9*10^s.length:=Nat.mul_le_mul_right _ (by omega);omega
theorem FB (n:Nat):bK 0 (bo n)=n:=by
 induction n using Nat.strongRecOn with
 | _ n ih=>
  by_cases h:n<10
  . rw[kh h,nL,lC h];omega
  . rw[lD h,nK,ih _ (by omega),nL,lC (Nat.mod_lt _ (by decide))];omega
theorem FC (n:Nat):(bo n).all bL=true:=by
 induction n using Nat.strongRecOn with
 | _ n ih=>
  by_cases h:n<10
  . rw[kh h];simp[vK h]
  . rw[lD h,List.all_append,ih _ (by omega)];simp[vK (Nat.mod_lt n (show 10 > 0 by decide))]
theorem FD {s:ah}(h:s.all bL=true):bz s.length (bK 0 s)=s:=by
 have key:∀(k:Nat) (s:ah),s.length=k->s.all bL=true->bz s.length (bK 0 s)=s:=by
  intro k;induction k with
  | zero=>intro s hs _;rw[List.eq_nil_of_length_eq_zero hs];rfl
  | succ k ih=>
   intro s hs h;rcases List.eq_nil_or_concat s with rfl|⟨t,c,e⟩
   . simp at hs
   . rw[List.concat_eq_append]at e;subst e;simp only[List.length_append,List.length_cons,List.length_nil]at hs ⊢;simp only[List.all_append,List.all_cons,List.all_nil,Bool.and_true,Bool.and_eq_true]at h;have hc:=(iJ c).1 h.2;rw[show t.length+(0+1)=t.length+1 by omega,bz,nK,nL];rw[show (10*bK 0 t+(c.toNat-48))/10=bK 0 t by omega,show (10*bK 0 t+(c.toNat-48))%10=c.toNat-48 by omega,ih t (by omega) h.1,Fz h.2]
 exact key _ s rfl h
theorem fP {n k:Nat}(h:n<10^k)(hk:0<k):(bo n).length<=k:=by
 induction k generalizing n with
 | zero=>omega
 | succ k ih=>
  by_cases h1:n<10
  . rw[kh h1];simp
  . rw[lD h1,List.length_append];rw[Nat.pow_succ]at h;have h0:0<k:=by
     rcases Nat.eq_zero_or_pos k with rfl|hp
     . simp at h;omega
     . exact hp
    have:=ih (n:=n/10) (by omega) h0;simp;omega
end Go.Ab.aI

/-
  Own work: decimal texts of machine integers: bytes, the number of digits, texts of two digits.
-/
namespace Go.Ab.Ch1
open Go.Ab.aI
variable {M:ay} {cap:Option Nat}
abbrev gE (k:Nat):AV:=.fn (.func k) [] []
def aR (s:ah):List AV:=s.map fun c=>.int .u8 c.toNat
theorem nN (a:ah):(aR a).length=a.length:=by simp[aR]
theorem vM:∀a:ah,bg (aR a)=0
 | []=>rfl
 | c::a=>by
  have:=vM a;simp only[aR]at this;simp only[aR,List.map_cons,bg,this];rfl
theorem vN:∀a:ah,bytesOf (aR a)=some a
 | []=>rfl
 | c::a=>by
  have h:=vN a;simp only[aR]at h;simp only[aR,List.map_cons,bytesOf,h];rw[show ((c.toNat:Int)).toNat=c.toNat from rfl,UInt8.ofNat_toNat]
theorem FE {L:ah}{m:Nat}{c:UInt8}(h:m<L.length):overwrite (aR L) m [.int .u8 c.toNat]=aR (L.set m c):=by
 apply List.ext_getElem?;intro i;simp only[overwrite,aR,List.length_cons,List.length_nil];rw[←List.map_take,←List.map_drop];by_cases h1:i<m
 . rw[List.append_assoc,List.getElem?_append_left (by simp;omega)];simp[h1,show ¬m=i by omega]
 . by_cases h2:i=m
   . subst h2;rw[List.append_assoc,List.getElem?_append_right (by simp;omega)];simp[List.length_take,Nat.min_eq_left (Nat.le_of_lt h),h]
   . rw[List.append_assoc,List.getElem?_append_right (by simp;omega)];have e:i-min m L.length=(i-m-1)+1:=by omega
     simp only[List.length_map,List.length_take,e,List.cons_append,List.nil_append,List.getElem?_cons_succ,List.map_drop,List.getElem?_drop,List.getElem?_map,List.getElem?_set,show ¬m=i by omega,if_false];rw[show m+(0+1)+(i-m-1)=i by omega]
section
variable {t:Nat} {x y:aq} {l:List az} {pe:List AV} {lo:List (Nat×AV)} {hp:ae} {df wr:List Nat} {k:IntKind} {a b:Int} {Q:ak->Prop} {e:TypeId} {L:ah} {m:Nat}
theorem MX {c:UInt8}(hx:(St.mk pe lo [some (.cells (aR L) e)] df).aa x=some (.ptr 0 m))(hy:(St.mk pe lo [some (.cells (aR L) e)] df).aa y=some (.int .u8 c.toNat))(hi:m<L.length)
 (h:WO M l ⟨⟨pe,lo,[some (.cells (aR (L.set m c)) e)],df⟩,0::wr⟩ Q):WO M (⟨.no,.store 1 x y,none⟩::l) ⟨⟨pe,lo,[some (.cells (aR L) e)],df⟩,wr⟩ Q:=by
 refine Mv (c:=aR L) (new:=[.int .u8 c.toNat]) hx (by rw[hy];rfl) rfl ⟨rfl,by rw[nN];omega,rfl⟩ (FE hi) ?_;exact h
theorem WO.vO {n i j:Nat}{lo' hi':Option aq}(hx:(St.mk pe lo [some (.cells (aR L) e)] df).aa x=some (.ptr 0 0))(hl:L.length=n)(hlo:((St.mk pe lo [some (.cells (aR L) e)] df).bT lo').bind (fun v=>aS v 0 j)=some i)(hhi:((St.mk pe lo [some (.cells (aR L) e)] df).bT hi').bind (fun v=>aS v n n)=some j)(hij:i<n)
 (h:WO M l ⟨⟨pe,(t,.sl 0 i (j-i) 1 (some (n-i)))::lo,[some (.cells (aR L) e)],df⟩,wr⟩ Q):WO M (⟨.l t,.fB n 1 x lo' hi',none⟩::l) ⟨⟨pe,lo,[some (.cells (aR L) e)],df⟩,wr⟩ Q:=by
 refine LY (v:=.sl 0 i (j-i) 1 (some (n-i))) (h':=[some (.cells (aR L) e)]) (w':=[]) ?_ rfl rfl h;have h0:ae.at [some (aP.cells (aR L) e)] 0=some (.cells (aR L) e):=rfl;cases ho:(St.mk pe lo [some (.cells (aR L) e)] df).bT lo' with
 | none=>rw[ho]at hlo;simp at hlo
 | some v=>
  cases ho':(St.mk pe lo [some (.cells (aR L) e)] df).bT hi' with
  | none=>rw[ho']at hhi;simp at hhi
  | some v'=>
   rw[ho]at hlo;rw[ho']at hhi;simp only[Option.bind_some]at hlo hhi;simp only[aN,hx,ho,ho',h0,nN,hl,hhi,hlo,Nat.zero_add,Nat.mul_one];rw[if_pos (Nat.le_refl _),if_pos hij]
theorem No {i j:Nat}{c:Option Nat}(hx:(St.mk pe lo [some (.cells (aR L) e)] df).aa x=some (.sl 0 i j 1 c))(hij:i+j<=L.length)
 (h:WO M l ⟨⟨pe,(t,.str ((L.drop i).take j))::lo,[some (.cells (aR L) e)],df⟩,wr⟩ Q):WO M (⟨.l t,.hY x,none⟩::l) ⟨⟨pe,lo,[some (.cells (aR L) e)],df⟩,wr⟩ Q:=by
 refine LY (v:=.str ((L.drop i).take j)) (h':=[some (.cells (aR L) e)]) (w':=[]) ?_ rfl rfl h;have h0:ae.at [some (aP.cells (aR L) e)] 0=some (.cells (aR L) e):=rfl;have hc:dF [some (.cells (aR L) e)] (.sl 0 i j 1 c)=some (aR ((L.drop i).take j),j):=by
  simp only[dF,h0,cut,Nat.mul_one];rw[if_pos (by rw[List.length_take,List.length_drop,nN];omega)];simp[aR,List.map_drop,List.map_take]
 simp only[aN,hx,hc,nN,vN];rw[if_pos (by simp;omega)]
theorem wrap32 {a:Int}(h:0<=a/\a<4294967296):IntKind.u32.wrap a=a:=by
 simp only[IntKind.wrap,IntKind.bits,IntKind.signed];simp;omega
theorem Nc (hx:(St.mk pe lo hp df).aa x=some (.int .u32 a))(hy:(St.mk pe lo hp df).aa y=some (.int .u32 b))(hr:0<=a+b/\a+b<4294967296)
 (h:WO M l ⟨⟨pe,(t,.int .u32 (a+b))::lo,hp,df⟩,wr⟩ Q):WO M (⟨.l t,.bin .add x y,none⟩::l) ⟨⟨pe,lo,hp,df⟩,wr⟩ Q:=
 LK (v:=.int .u32 (a+b)) (by simp[aE,hx,hy,cj,wrap32 hr]) rfl h
theorem Ng (hx:(St.mk pe lo hp df).aa x=some (.int .u32 a))(hy:(St.mk pe lo hp df).aa y=some (.int .u32 b))(hr:0<=a*b/\a*b<4294967296)
 (h:WO M l ⟨⟨pe,(t,.int .u32 (a*b))::lo,hp,df⟩,wr⟩ Q):WO M (⟨.l t,.bin .mul x y,none⟩::l) ⟨⟨pe,lo,hp,df⟩,wr⟩ Q:=
 LK (v:=.int .u32 (a*b)) (by simp[aE,hx,hy,cj,wrap32 hr]) rfl h
theorem Nh (hx:(St.mk pe lo hp df).aa x=some (.int .u32 a))(hy:(St.mk pe lo hp df).aa y=some (.int .u32 b))(ha:0<=a/\a<4294967296)(hb:0<b)
 (h:WO M l ⟨⟨pe,(t,.int .u32 (a/b))::lo,hp,df⟩,wr⟩ Q):WO M (⟨.l t,.bin .quo x y,none⟩::l) ⟨⟨pe,lo,hp,df⟩,wr⟩ Q:=by
 refine LK (v:=.int .u32 (a/b)) ?_ rfl h;have h1:0<=a/b:=Int.ediv_nonneg ha.1 (Int.le_of_lt hb);have h2:a/b<=a:=Int.ediv_le_self _ ha.1;have h3:¬b=0:=by omega
 simp only[aE,hx,hy,cj,if_true,if_neg h3];rw[Int.tdiv_eq_ediv_of_nonneg ha.1,wrap32 ⟨h1,by omega⟩]
theorem Ni (hx:(St.mk pe lo hp df).aa x=some (.int .u32 a))(hy:(St.mk pe lo hp df).aa y=some (.int .u32 b))(ha:0<=a)(hb:0<b)
 (h:WO M l ⟨⟨pe,(t,.int .u32 (a%b))::lo,hp,df⟩,wr⟩ Q):WO M (⟨.l t,.bin .rem x y,none⟩::l) ⟨⟨pe,lo,hp,df⟩,wr⟩ Q:=by
 refine LK (v:=.int .u32 (a%b)) ?_ rfl h;have h3:¬b=0:=by omega
 simp only[aE,hx,hy,cj,if_true,if_neg h3];rw[Int.tmod_eq_emod_of_nonneg ha]
theorem Np (hx:(St.mk pe lo hp df).aa x=some (.int k a))(hr:0<=a/\a<4294967296)(h:WO M l ⟨⟨pe,(t,.int .u32 a)::lo,hp,df⟩,wr⟩ Q):WO M (⟨.l t,.dh .u32 x,none⟩::l) ⟨⟨pe,lo,hp,df⟩,wr⟩ Q:=
 LK (v:=.int .u32 a) (by simp only[aE,hx,Option.bind_some,hZ,wrap32 hr]) rfl h
theorem NA (hx:(St.mk pe lo hp df).aa x=some (.iV a))
 (h:WO M l ⟨⟨pe,(t,.iV (a/262144))::lo,hp,df⟩,wr⟩ Q):WO M (⟨.l t,.bin .shr x (.c (.int k 18)),none⟩::l) ⟨⟨pe,lo,hp,df⟩,wr⟩ Q:=by
 refine WO.op (WP.pure (v:=.iV (a/262144)) rfl ?_ h);have:a.fdiv (2^min (Int.toNat 18) IntKind.i64.bits)=a/262144:=by
  show a.fdiv 262144=a/262144;rw[Int.fdiv_eq_ediv_of_nonneg _ (by omega)]
 have e:(St.mk pe lo hp df).aa (.c (.int k 18))=some (.int k 18):=rfl;simp only[aE,hx,e,cj,this];rfl
end
theorem FG (hft:M.FT=FT)(x:Int)(hx:0<=x/\x<=64):aG M 324 [.iV x] [] ⟨.iV (x*78913/262144),[],[]⟩:=by
 refine ba (by rw[hft];exact Fx) (by simp) ?_;unfold vI;simp only[enter];repeat' first|(apply NA;rfl)|apply LL|apply aj|apply LM|apply LN|apply LP|(apply MF;rfl;rfl;omega)|(apply LK;rfl;rfl)|(apply LO;rfl;rfl)
 all_goals exact⟨.inr rfl,rfl,_,rfl,rfl,rfl⟩
theorem FH (hft:M.FT=FT)(x:Bool):aG M 325 [.bool x] [] ⟨.iV (if x then 1 else 0),[],[]⟩:=by
 refine ba (by rw[hft];exact Fy) (by simp) ?_;unfold vJ;simp only[enter];cases x;all_goals
 . repeat' first|apply LL|apply aj|apply LM|apply LN|apply LP|apply LU|apply aF|(apply LS;rfl)|(apply LR;rfl)|(apply LK;rfl;rfl)|(apply LO;rfl;rfl)
   all_goals exact⟨.inr rfl,rfl,_,rfl,rfl,rfl⟩
theorem FI (bl:Fin 65):1<=bl.val->bl.val*78913/262144<20/\(bl.val*78913/262144=0\/10^(bl.val*78913/262144-1)<=2^(bl.val-1))/\2^bl.val<=10^(bl.val*78913/262144+1):=by
 revert bl;decide +kernel
def dS (d:Int):Nat:=if (10:Int)^(dn d*78913/262144)<=d then dn d*78913/262144+1 else dn d*78913/262144
theorem rp {d:Nat}(h:0<d/\d<18446744073709551616):1<=dS d/\dS d<=20/\d<10^dS d/\(dS d=1\/10^(dS d-1)<=d):=by
 obtain⟨h1,h2,h3⟩:=vw (x:=(d:Int)) (by omega);have h4:=vy (x:=(d:Int)) (n:=64) (by show (d:Int)<18446744073709551616;omega) (by omega);obtain⟨g0,g1,g2⟩:=FI ⟨dn d,by omega⟩ h1;simp only at g0 g1 g2;have h2:2^(dn (d:Int)-1)<=d:=by exact_mod_cast h2
 have h3:d<2^dn (d:Int):=by exact_mod_cast h3
 unfold dS;obtain⟨n,hn⟩:∃n,n=dn (d:Int)*78913/262144:=⟨_,rfl⟩;rw[←hn]at g0 g1 g2 ⊢;by_cases hc:(10:Int)^n<=d
 . rw[if_pos hc];have hc:10^n<=d:=by exact_mod_cast hc
   exact⟨by omega,by omega,by omega,.inr (by rw[Nat.add_sub_cancel];exact hc)⟩
 . rw[if_neg hc];have hc:d<10^n:=by
    rcases Nat.lt_or_ge d (10^n) with h|h
    . exact h
    . exact absurd (by exact_mod_cast h) hc
   have hn0:n≠0:=by
    rintro rfl;simp at hc;omega
   refine⟨by omega,by omega,hc,?_⟩;rcases g1 with g1|g1
   . omega
   . exact .inr (by omega)
def js:List AV:=[.uV (1),.uV (10),.uV (100),.uV (1000),.uV (10000),.uV (100000),.uV (1000000),.uV (10000000),.uV (100000000),.uV (1000000000),.uV (10000000000),.uV (100000000000),.uV (1000000000000),.uV (10000000000000),.uV (100000000000000),.uV (1000000000000000),.uV (10000000000000000),.uV (100000000000000000),.uV (1000000000000000000),.uV (10000000000000000000)]
theorem FJ:∀k:Nat,k<20->partOf (js.drop (k*1)) 0 1 false=some (.uV (10^k))
 | 0,_=>rfl|1,_=>rfl|2,_=>rfl|3,_=>rfl|4,_=>rfl|5,_=>rfl|6,_=>rfl|7,_=>rfl|8,_=>rfl|9,_=>rfl
 | 10,_=>rfl|11,_=>rfl|12,_=>rfl|13,_=>rfl|14,_=>rfl|15,_=>rfl|16,_=>rfl|17,_=>rfl|18,_=>rfl|19,_=>rfl
 | k+20,h=>by omega
theorem NB {t:Nat}{i:aq}{l:List az}{pe:List AV}{lo:List (Nat×AV)}{hp:ae}{df wr:List Nat}{k:IntKind}{n:Int}{Q:ak->Prop}(hy:(St.mk pe lo hp df).aa i=some (.int k n))(hb:0<=n/\n<20)
 (h:WO M l ⟨⟨pe,(t,.vp (js.drop (n.toNat*1)))::lo,hp,df⟩,wr⟩ Q):WO M (⟨.l t,.dE (some 20) 1 (.c (.vp js)) i,none⟩::l) ⟨⟨pe,lo,hp,df⟩,wr⟩ Q:=
 WO.op (WP.pure (v:=.vp (js.drop (n.toNat*1))) rfl (by
  have e:(St.mk pe lo hp df).aa (.c (.vp js))=some (.vp js):=rfl;have h2:0<=n/\n<((20:Nat):Int):=hb;simp only[aE,e,hy,iR,if_pos h2]) h)
theorem NC {t:Nat}{x:aq}{l:List az}{pe:List AV}{lo:List (Nat×AV)}{hp:ae}{df wr:List Nat}{n:Nat}{Q:ak->Prop}(hx:(St.mk pe lo hp df).aa x=some (.vp (js.drop (n*1))))(hb:n<20)
 (h:WO M l ⟨⟨pe,(t,.uV (10^n))::lo,hp,df⟩,wr⟩ Q):WO M (⟨.l t,.load 1 false x,none⟩::l) ⟨⟨pe,lo,hp,df⟩,wr⟩ Q:=
 LY (v:=.uV (10^n)) (h':=hp) (w':=[]) (by simp only[aN,hx,Option.bind_some,dO,FJ n hb]) rfl rfl h
structure vR (M:ay):Prop where
 ft:M.FT=FT
 vS:∀(x:Int) h,(0<=x/\x<18446744073709551616)->M.ext 240 [.uV x] h=some ⟨.iV (dn x),h,[]⟩
 vT:∀(x:Int) h,(0<=x/\x<=64)->M.ext 324 [.iV x] h=some ⟨.iV (x*78913/262144),h,[]⟩
 rq:∀(x:Bool) h,M.ext 325 [.bool x] h=some ⟨.iV (if x then 1 else 0),h,[]⟩
theorem FM (C:vR M)(d:Int)(hd:0<d/\d<18446744073709551616):aG M 305 [.uV d] [] ⟨.iV (dS d),[],[]⟩:=by
 have h4:=vy (x:=d) (n:=64) (by exact hd.2) (by omega);have q240:=fun h=>C.vS d h ⟨by omega,hd.2⟩
 have q324:=fun h=>C.vT (dn d) h ⟨by omega,by omega⟩
 have q325a:=fun h=>C.rq true h
 have q325b:=fun h=>C.rq false h
 simp only[if_true]at q325a;simp only[Bool.false_eq_true,if_false]at q325b;obtain⟨n,hn⟩:∃n,n=dn d*78913/262144:=⟨_,rfl⟩;have e1:((dn d:Int)*78913/262144)=(n:Int):=by rw[hn];omega
 rw[e1]at q324;have hn20:n<20:=by omega
 have e2:dS d=if (10:Int)^n<=d then n+1 else n:=by unfold dS;rw[←hn]
 rw[e2];refine ba (by rw[C.ft];exact Fv) (by simp) ?_;unfold vG;simp only[enter];repeat' first|(apply NB;rfl;omega)|(apply NC (n:=n);rfl;exact hn20)|apply LL|apply aj|apply LM|apply LN|apply LP|(apply Mx;rfl;rfl)|(apply Mk;rfl;rfl;omega)|(apply LV;rfl;rfl;first|exact q240 _|exact q324 _|exact q325a _|exact q325b _)|(apply LK;rfl;rfl)|(apply LO;rfl;rfl)|(intro _;omega)|intro _
 all_goals try omega
 . rename_i h1;rw[if_pos h1];exact⟨.inr rfl,rfl,_,rfl,rfl,rfl⟩
 . rename_i h1;rw[if_neg (by omega)];exact⟨.inr rfl,rfl,_,rfl,by simp[cd],rfl⟩
def fz:ah:=[48,48,48,49,48,50,48,51,48,52,48,53,48,54,48,55,48,56,48,57,49,48,49,49,49,50,49,51,49,52,49,53,49,54,49,55,49,56,49,57,50,48,50,49,50,50,50,51,50,52,50,53,50,54,50,55,50,56,50,57,51,48,51,49,51,50,51,51,51,52,51,53,51,54,51,55,51,56,51,57,52,48,52,49,52,50,52,51,52,52,52,53,52,54,52,55,52,56,52,57,53,48,53,49,53,50,53,51,53,52,53,53,53,54,53,55,53,56,53,57,54,48,54,49,54,50,54,51,54,52,54,53,54,54,54,55,54,56,54,57,55,48,55,49,55,50,55,51,55,52,55,53,55,54,55,55,55,56,55,57,56,48,56,49,56,50,56,51,56,52,56,53,56,54,56,55,56,56,56,57,57,48,57,49,57,50,57,51,57,52,57,53,57,54,57,55,57,56,57,57]
theorem nP:fz.length=200:=by decide +kernel
theorem vU:∀x:Fin 100,fz[x.val*2]! = cz (x.val/10)/\fz[x.val*2+1]! = cz (x.val%10):=by decide +kernel
theorem FN {x:Int}(h:0<=x/\x<100):fz[(x*2).toNat]! = cz (x.toNat/10):=by
 obtain⟨k,rfl⟩:=Int.eq_ofNat_of_zero_le h.1;have:=(vU ⟨k,by omega⟩).1;rw[show ((k:Int)*2).toNat=k*2 by omega];exact this
theorem FO {x:Int}(h:0<=x/\x<100):fz[(x*2+1).toNat]! = cz (x.toNat%10):=by
 obtain⟨k,rfl⟩:=Int.eq_ofNat_of_zero_le h.1;have:=(vU ⟨k,by omega⟩).2;rw[show ((k:Int)*2+1).toNat=k*2+1 by omega];exact this
def nQ:ah:=[48,49,50,51,52,53,54,55,56,57,97,98,99,100,101,102,103,104,105,106,107,108,109,110,111,112,113,114,115,116,117,118,119,120,121,122]
theorem FP:∀x:Fin 10,(nQ.drop x.val).take (x.val+1-x.val)=bo x.val:=by
 intro x;rw[kh x.isLt];revert x;decide +kernel
theorem FQ:∀x:Fin 100,10<=x.val->(fz.drop (x.val*2)).take (x.val*2+2-x.val*2)=bo x.val:=by
 intro x h;rw[lD (by omega),kh (by omega)];revert x;decide +kernel
theorem Nq {t:Nat}{x y z:aq}{l:List az}{pe:List AV}{lo:List (Nat×AV)}{hp:ae}{df wr:List Nat}{k k':IntKind}{s:ah}{a b:Int}{Q:ak->Prop}(hx:(St.mk pe lo hp df).aa x=some (.str s))(hy:(St.mk pe lo hp df).aa y=some (.int k a))(hz:(St.mk pe lo hp df).aa z=some (.int k' b))(hb:0<=a/\a<=b/\b<=s.length){r:ah}(hr:(s.drop a.toNat).take (b.toNat-a.toNat)=r)
 (h:WO M l ⟨⟨pe,(t,.str r)::lo,hp,df⟩,wr⟩ Q):WO M (⟨.l t,.slice .str 1 x (some y) (some z) none,none⟩::l) ⟨⟨pe,lo,hp,df⟩,wr⟩ Q:=by
 subst hr;refine LK (v:=.str ((s.drop a.toNat).take (b.toNat-a.toNat))) ?_ rfl h;simp only[aE,hx,St.bT,hy,hz,Option.map_some,gm,aS];have h1:0<=b/\b<=((s.length:Nat):Int):=⟨by omega,hb.2.2⟩;have h2:0<=a/\a<=((b.toNat:Nat):Int):=⟨hb.1,by omega⟩;simp only[if_pos h1,if_pos h2];rfl
set_option maxRecDepth 100000 in
theorem FU (hft:M.FT=FT)(n:Nat)(hn:n<100):aG M 304 [.iV n] [] ⟨.str (bo n),[],[]⟩:=by
 have e1:(n:Int).toNat=n:=rfl;refine ba (by rw[hft];exact Ft) (by simp) ?_;unfold vE;simp only[enter];by_cases h:n<10
 . have hc:(nQ.drop (n:Int).toNat).take (((n:Int)+1).toNat-(n:Int).toNat)=bo n:=by rw[show ((n:Int)+1).toNat=n+1 by omega];exact FP ⟨n,h⟩
   have l1:nQ.length=36:=rfl;repeat' first|(apply Nq (s:=nQ);rfl;rfl;rfl;omega;exact hc)|apply LL|apply aj|apply LM|apply LN|apply LP|apply aF|(apply LS;rfl)|(apply Md;rfl;rfl)|(apply Mk;rfl;rfl;omega)|(apply LK;rfl;rfl)|(apply LO;rfl;rfl)|(intro _;omega)|intro _
   all_goals try omega
   all_goals exact⟨.inr rfl,rfl,_,rfl,rfl,rfl⟩
 . have hc:(fz.drop ((n:Int)*2).toNat).take (((n:Int)*2+2).toNat-((n:Int)*2).toNat)=bo n:=by rw[show ((n:Int)*2+2).toNat=n*2+2 by omega,show ((n:Int)*2).toNat=n*2 by omega];exact FQ ⟨n,hn⟩ (by simp only;omega)
   have l1:=nP;repeat' first|(apply Nq (s:=fz);rfl;rfl;rfl;omega;exact hc)|apply LL|apply aj|apply LM|apply LN|apply LP|apply LU|(apply LR;rfl)|(apply Md;rfl;rfl)|(apply Mk;rfl;rfl;omega)|(apply MF;rfl;rfl;omega)|(apply LK;rfl;rfl)|(apply LO;rfl;rfl)|(intro _;omega)|intro _
   all_goals try omega
   all_goals exact⟨.inr rfl,rfl,_,rfl,rfl,rfl⟩
def dD (L:ah)(off n i u:Nat):Prop:=L.length=24/\∀j,i<=j->j<n->L[off+j]! = cz (u/10^(n-1-j)%10)
theorem ru {L:ah}{i k:Nat}{v:UInt8}(h:i<L.length):(L.set i v)[k]! = if k=i then v else L[k]! := by
 simp only[List.getElem!_eq_getElem?_getD,List.getElem?_set];by_cases hk:k=i
 . subst hk;simp[h]
 . simp[hk,show ¬i=k from fun e=>hk e.symm]
theorem dD.two {L:ah}{off n i u:Nat}{a b:Nat}{c d:UInt8}(h:dD L off n (i+2) u)(hn:off+n<=24)(hi:i+2<=n)(ha:a=off+i+1)(hb:b=off+i)(hc:c=cz (u/10^(n-(i+2))%10))(hd:d=cz (u/10^(n-(i+2))/10%10)):dD ((L.set a c).set b d) off n i u:=by
 subst ha;subst hb;refine⟨by simp[h.1],fun j h1 h2=>?_⟩;rw[ru (by rw[List.length_set,h.1];omega),ru (by rw[h.1];omega)];by_cases e1:j=i
 . subst e1;rw[if_pos rfl,hd,Nat.div_div_eq_div_mul,←Nat.pow_succ,show (n-(j+2)).succ=n-1-j by omega]
 . by_cases e2:j=i+1
   . subst e2;rw[if_neg (by omega),if_pos (by omega),hc,show n-(i+2)=n-1-(i+1) by omega]
   . rw[if_neg (by omega),if_neg (by omega)];exact h.2 j (by omega) h2
theorem dD.fin {L:ah}{off n u:Nat}(h:dD L off n 0 u)(hn:off+n<=24):(L.drop off).take n=bz n u:=by
 refine vL (by rw[List.length_take,List.length_drop,h.1];omega) fun j hj=>?_
 rw[←h.2 j (Nat.zero_le _) hj];simp only[List.getElem!_eq_getElem?_getD,List.getElem?_take,if_pos hj,List.getElem?_drop]
variable {e:TypeId}
theorem jt {u n j:Nat}(hj:j+2<=n):u/10^(n-j)=u/10^(n-(j+2))/100:=by
 rw[Nat.div_div_eq_div_mul,show (100:Nat)=10^2 by rfl,←Nat.pow_add,show n-(j+2)+2=n-j by omega]
theorem dD.iK {L:ah}{off n i u U:Nat}{a b:Nat}{x y:Int}(h:dD L off n (i+2) u)(hn:off+n<=24)(hi:i+2<=n)(hU:U=u/10^(n-(i+2)))(ha:a=off+i+1)(hb:b=off+i)(hx:x=(U%100:Nat)*2+1)(hy:y=(U%100:Nat)*2):dD ((L.set a fz[x.toNat]!).set b fz[y.toNat]!) off n i u:=by
 subst hx;subst hy;refine h.two hn hi ha hb ?_ ?_
 . rw[FO (by omega),←hU];congr 1;omega
 . rw[FN (by omega),←hU];congr 1;omega
set_option maxRecDepth 100000 in
theorem FV (off n u0:Nat)(hn:off+n<=24)(hu:u0<18446744073709551616){Q:Ex->ak->Prop}(a10 a11 a12 a13 a14:AV)
 (hQ:∀L i a3 a4 a5 a6 a7 a8 a9 lo wr,i<=n->i<8->dD L off n i u0->ed 0 wr->Q (.exit 0) ⟨⟨[.sl 0 off n 1 cap,.uV ((u0/10^(n-i):Nat):Int),.iV (i:Nat),a3,a4,a5,a6,a7,a8,a9,a10,a11,a12,a13,a14],lo,[some (.cells (aR L) e)],[]⟩,wr⟩)
 (L:ah) (i:Nat) (a3 a4 a5 a6 a7 a8 a9:AV) (lo:List (Nat×AV)) (wr:List Nat) (hi:i<=n) (hL:dD L off n i u0) (hw:ed 0 wr) :
 W M (.loop nI) ⟨⟨[.sl 0 off n 1 cap,.uV ((u0/10^(n-i):Nat):Int),.iV (i:Nat),a3,a4,a5,a6,a7,a8,a9,a10,a11,a12,a13,a14],lo,[some (.cells (aR L) e)],[]⟩,wr⟩ Q:=by
 refine W.nu (fun m s=>∃L U iv a3 a4 a5 a6 a7 a8 a9 lo wr,s=⟨⟨[.sl 0 off n 1 cap,.uV U,.iV iv,a3,a4,a5,a6,a7,a8,a9,a10,a11,a12,a13,a14],lo,[some (.cells (aR L) e)],[]⟩,wr⟩/\U=((u0/10^(n-m):Nat):Int)/\iv=(m:Int)/\m<=n/\dD L off n m u0/\ed 0 wr)
  (fun m s ⟨L,U,iv,a3,a4,a5,a6,a7,a8,a9,lo,wr,hs,hU,hiv,hm,hL,hw⟩=>?_) (m:=i) ⟨L,_,_,a3,a4,a5,a6,a7,a8,a9,lo,wr,rfl,rfl,rfl,hi,hL,hw⟩
 subst hs;subst hU;subst hiv;have hl:=hL.1;have sl:=nP;have hUle:u0/10^(n-m)<=u0:=Nat.div_le_self _ _;by_cases h8:m<8
 . unfold nI;repeat' first|apply LL|apply aj|apply LM|apply LN|apply Mi|apply bO|apply cw|(apply LR;rfl)|(apply Mx;rfl;rfl)|(apply LK;rfl;rfl)|(intro _;omega)|intro _
   all_goals try omega
   all_goals exact hQ _ _ _ _ _ _ _ _ _ _ _ hm h8 hL hw
 . obtain⟨j,rfl⟩:∃j,m=j+8:=⟨m-8,by omega⟩;have s1:=jt (u:=u0) (n:=n) (j:=j+6) (by omega);have s2:=jt (u:=u0) (n:=n) (j:=j+4) (by omega);have s3:=jt (u:=u0) (n:=n) (j:=j+2) (by omega);have s4:=jt (u:=u0) (n:=n) (j:=j) (by omega);obtain⟨U,hU⟩:∃U,U=u0/10^(n-(j+8)):=⟨_,rfl⟩;rw[show j+6+2=j+8 by omega,←hU]at s1;rw[show j+4+2=j+6 by omega,s1]at s2;rw[show j+2+2=j+4 by omega,s2]at s3;rw[s3]at s4;rw[←hU]at hUle ⊢;unfold nI;repeat' first|(apply MX;rfl;rfl;(first|omega|(simp only[List.length_set];omega)))|(apply Nx;rfl;rfl;omega;omega)|(apply Nw;rfl;rfl;omega;omega)|(apply Np;rfl;omega)|(apply Nh;rfl;rfl;omega;omega)|(apply Ni;rfl;rfl;omega;omega)|(apply Ng;rfl;rfl;omega)|(apply Nc;rfl;rfl;omega)|(apply Mn (s:=fz);rfl;rfl;omega)|apply LL|apply aj|apply LM|apply LN|apply LW|apply LU|apply aZ|apply Mo|apply Mp|(apply Mq;rfl)|(apply MS;rfl;(first|(simp only[nca];rfl)|rfl);(first|(simp only[nca];rfl)|rfl))|(apply LS;rfl)|(apply Mx;rfl;rfl)|(apply Mw;rfl;rfl;omega)|(apply MN;rfl;rfl;omega)|(apply LK;rfl;rfl)|(apply LO;rfl;rfl)|(intro _;omega)|intro _
   all_goals try omega
   refine gY ⟨j,by omega,_,_,_,_,_,_,_,_,_,_,_,_,rfl,?_,?_,by omega,?_,?_⟩
   . rw[s4];omega
   . omega
   . have g1:=dD.iK (L:=L) (i:=j+6) (U:=U) (a:=off+(((j+8:Nat):Int)-1).toNat*1) (b:=off+(((j+8:Nat):Int)-2).toNat*1) hL hn (by omega) hU (by omega) (by omega) rfl rfl;refine dD.iK (U:=U/100/100/100) (dD.iK (i:=j+2) (U:=U/100/100) (dD.iK (i:=j+4) (U:=U/100) (dD.iK (i:=j+6) (U:=U) hL hn (by omega) hU ?_ ?_ ?_ ?_) hn (by omega) s1.symm ?_ ?_ ?_ ?_) hn (by omega) s2.symm ?_ ?_ ?_ ?_) hn (by omega) s3.symm ?_ ?_ ?_ ?_;all_goals omega
   . exact .cons (.cons (.cons (.cons (.cons (.cons (.cons (.cons hw)))))))
set_option maxRecDepth 100000
def lG:ao:=
 .seq (
       .region [zm 160 2,
         zc 161 .gtr 160 0])
       (
        .cond (.l 161)
        (.region [zm 162 0,
          zm 163 10,
          ⟨(.l 164),.bin .add (kW 48) (.l 163),none⟩,
          ⟨(.l 165),.dh .u8 (.l 164),none⟩,
          ⟨(.l 166),.dE none 1 (.l 162) (kI 0),none⟩,
          zS 1 166 165])
        (.skip))
def nR:ao:=
 .seq (
       .region [zm 138 2,
         zc 139 .geq 138 2])
       (
        .cond (.l 139)
        (
         zR [zm 140 10,
           ⟨(.l 141),.bin .rem (.l 140) (kW 100),none⟩,
           ⟨(.l 142),.bin .mul (.l 141) (kW 2),none⟩,
           zw 14 142]
         (
          zR [zm 143 10,
            ⟨(.l 144),.bin .quo (.l 143) (kW 100),none⟩,
            zw 10 144]
          (
           .seq (.draw [(zm 145 0,[]),
             (zm 146 2,[0]),
             (zc 147 .sub 146 1,[0]),
             (zm 148 0,[0,1,2]),
             (zm 149 2,[0,1,2,3]),
             (zc 150 .sub 149 2,[0,1,2,3]),
             (zm 151 14,[0,1,2,3,4,5]),
             (⟨(.l 152),.bin .add (.l 151) (kW 1),none⟩,[0,1,2,3,4,5]),
             (⟨(.l 153),.index (.c (.str zD2)) (.l 152),none⟩,[0,1,2,3,4,5]),
             (zm 154 14,[0,1,2,3,4,5,6,7,8]),
             (⟨(.l 155),.index (.c (.str zD2)) (.l 154),none⟩,[0,1,2,3,4,5,6,7,8]),
             (za 156 1 145 147,[3,4,5,9,10]),
             (zS 1 156 153,[3,4,5,9,10]),
             (za 157 1 148 150,[]),
             (zS 1 157 155,[])])
           (.region [zm 158 2,
             zc 159 .sub 158 2,
             zw 2 159]))))
        (.skip))
def rv:ao:=
 zR [zm 98 2,
        zc 99 .geq 98 4]
      (
       .cond (.l 99)
       (
        zR [zm 100 10,
          ⟨(.l 101),.bin .rem (.l 100) (kW 10000),none⟩,
          zw 11 101]
        (
         zR [zm 102 10,
           ⟨(.l 103),.bin .quo (.l 102) (kW 10000),none⟩,
           zw 10 103]
         (
          zR [zm 104 11,
            ⟨(.l 105),.bin .quo (.l 104) (kW 100),none⟩,
            ⟨(.l 106),.bin .mul (.l 105) (kW 2),none⟩,
            zm 107 11,
            ⟨(.l 108),.bin .rem (.l 107) (kW 100),none⟩,
            ⟨(.l 109),.bin .mul (.l 108) (kW 2),none⟩,
            zw 12 106,
            zw 13 109]
          (
           .seq (.draw [(zm 110 0,[]),
             (zm 111 2,[0]),
             (zc 112 .sub 111 1,[0]),
             (zm 113 0,[0,1,2]),
             (zm 114 2,[0,1,2,3]),
             (zc 115 .sub 114 2,[0,1,2,3]),
             (zm 116 13,[0,1,2,3,4,5]),
             (⟨(.l 117),.bin .add (.l 116) (kW 1),none⟩,[0,1,2,3,4,5]),
             (⟨(.l 118),.index (.c (.str zD2)) (.l 117),none⟩,[0,1,2,3,4,5]),
             (zm 119 13,[0,1,2,3,4,5,6,7,8]),
             (⟨(.l 120),.index (.c (.str zD2)) (.l 119),none⟩,[0,1,2,3,4,5,6,7,8]),
             (za 121 1 110 112,[3,4,5,9,10]),
             (zS 1 121 118,[3,4,5,9,10]),
             (za 122 1 113 115,[]),
             (zS 1 122 120,[])])
           (
            .seq (.draw [(zm 123 0,[]),
              (zm 124 2,[0]),
              (zc 125 .sub 124 3,[0]),
              (zm 126 0,[0,1,2]),
              (zm 127 2,[0,1,2,3]),
              (zc 128 .sub 127 4,[0,1,2,3]),
              (zm 129 12,[0,1,2,3,4,5]),
              (⟨(.l 130),.bin .add (.l 129) (kW 1),none⟩,[0,1,2,3,4,5]),
              (⟨(.l 131),.index (.c (.str zD2)) (.l 130),none⟩,[0,1,2,3,4,5]),
              (zm 132 12,[0,1,2,3,4,5,6,7,8]),
              (⟨(.l 133),.index (.c (.str zD2)) (.l 132),none⟩,[0,1,2,3,4,5,6,7,8]),
              (za 134 1 123 125,[3,4,5,9,10]),
              (zS 1 134 131,[3,4,5,9,10]),
              (za 135 1 126 128,[]),
              (zS 1 135 133,[])])
            (.region [zm 136 2,
              zc 137 .sub 136 4,
              zw 2 137]))))))
       (.skip))
theorem FW {g N:Nat}{au:List Nat}{body:ao}{ars:List AV}{L:ah}{P:ah->Prop}(hft:M.FT g=some ⟨N,au,[],body⟩)(hN:ars.length<=N)
 (hW:W M body ⟨⟨au.map (fun t=>(ars[t]?).getD bm),[],[some (.cells (aR L) e)],[]⟩,[]⟩ fun x s=>(x = .normal\/x = .ret)/\s.s.bI=[]/\∃L',s.s.hp=[some (.cells (aR L') e)]/\ed 0 s.wr/\P L') :
 ∃L' wr,ed 0 wr/\P L'/\aG M g ars [some (.cells (aR L) e)] ⟨.ar [],[some (.cells (aR L') e)],wr⟩:=by
 obtain⟨⟨n,x,s,h1,h2,h3,L',h4,h5,h6⟩⟩:=hW;have hb:0<([some (.cells (aR L) e)]:ae).length:=Nat.zero_lt_one;have hh:s.s.hp=ae.put [some (.cells (aR L) e)] 0 (some (.cells (aR L') e)):=h4;obtain⟨wr,hw,hr⟩:=Du (c0:=aR L) hb hh h5 (vM L');exact⟨L',wr,hw,h6,lu hft hN ⟨⟨n,x,s,h1,h2,h3,[],rfl,hr⟩⟩⟩
def ry (e:TypeId)(off n u0:Nat)(x:Ex)(s:ak):Prop:=(x = .normal\/x = .ret)/\s.s.bI=[]/\∃L',s.s.hp=[some (.cells (aR L') e)]/\ed 0 s.wr/\dD L' off n 0 u0
theorem nS {u n i:Nat}(h:u<10^n)(hi:i<=n):u/10^(n-i)<10^i:=by
 refine Nat.div_lt_of_lt_mul ?_;rw[←Nat.pow_add,show n-i+i=n by omega];exact h
def rz (L:ah)(off n u0:Nat)(k:Nat)(iv U:Int)(wr:List Nat):Prop:=∃i:Nat,i<k/\i<=n/\iv=(i:Int)/\U=((u0/10^(n-i):Nat):Int)/\dD L off n i u0/\ed 0 wr
theorem vW {off n u0:Nat}(hn:off+n<=24)(hlt:u0<10^n){L:ah}{iv U:Int}{a1 a3 a4 a5 a6 a7 a8 a9 a11 a12 a13 a14:AV}{lo:List (Nat×AV)}{wr:List Nat}(h:rz L off n u0 2 iv U wr) :
 W M lG ⟨⟨[.sl 0 off n 1 cap,a1,.iV iv,a3,a4,a5,a6,a7,a8,a9,.int .u32 U,a11,a12,a13,a14],lo,[some (.cells (aR L) e)],[]⟩,wr⟩ (ry e off n u0):=by
 obtain⟨i,hi,hin,rfl,hU,hL,hw⟩:=h;have hl:=hL.1;have hr:=nS hlt hin;obtain⟨V,hV⟩:∃V,V=u0/10^(n-i):=⟨_,rfl⟩;rw[←hV]at hU hr;subst hU;by_cases h1:i=1
 . subst h1;have hV10:V<10:=by simpa using hr
   have hd:(cz V).toNat=48+V:=lC hV10;unfold lG;repeat' first|(apply MX (c:=cz V);rfl;exact(congrArg (fun z:Int=>some (AV.int .u8 z)) (show (48+(V:Int))%256=((cz V).toNat:Int) by rw[hd];omega));omega)|(apply Nc;rfl;rfl;omega)|(apply Nn;rfl)|apply LL|apply aj|apply LM|apply LN|(apply LS;rfl)|(apply LZ;rfl;rfl)|(apply MN;rfl;rfl;omega)|(apply LK;rfl;rfl)|(intro _;omega)|intro _
   all_goals try omega
   refine⟨.inl rfl,rfl,_,rfl,.cons hw,by simp[hl],fun j h1 h2=>?_⟩;rw[ru (by omega)];by_cases hj:j=0
   . subst hj;rw[if_pos (by omega),show n-1-0=n-1 by omega,←hV,Nat.mod_eq_of_lt hV10]
   . rw[if_neg (by omega)];exact hL.2 j (by omega) h2
 . obtain rfl:i=0:=by omega
   unfold lG;repeat' first|apply LL|apply aj|apply LM|apply LN|apply LU|(apply LR;rfl)|(apply LZ;rfl;rfl)|(apply LK;rfl;rfl)|(intro _;omega)|intro _
   all_goals try omega
   exact⟨.inl rfl,rfl,_,rfl,hw,hL⟩
theorem vX {off n u0:Nat}(hn:off+n<=24)(hlt:u0<10^n){L:ah}{iv U:Int}{a1 a3 a4 a5 a6 a7 a8 a9 a11 a12 a13 a14:AV}{lo:List (Nat×AV)}{wr:List Nat}(h:rz L off n u0 4 iv U wr) :
 W M (.seq nR lG) ⟨⟨[.sl 0 off n 1 cap,a1,.iV iv,a3,a4,a5,a6,a7,a8,a9,.int .u32 U,a11,a12,a13,a14],lo,[some (.cells (aR L) e)],[]⟩,wr⟩ (ry e off n u0):=by
 obtain⟨i,hi,hin,rfl,hU,hL,hw⟩:=h;have hl:=hL.1;have sl:=nP;have hr:=nS hlt hin;by_cases h1:2<=i
 . obtain⟨j,rfl⟩:∃j,i=j+2:=⟨i-2,by omega⟩;have s1:=jt (u:=u0) (n:=n) (j:=j) hin;obtain⟨V,hV⟩:∃V,V=u0/10^(n-(j+2)):=⟨_,rfl⟩;rw[←hV]at hU hr s1;have hV4:V<10000:=Nat.lt_of_lt_of_le hr (Nat.le_trans (Nat.pow_le_pow_right (by decide) (show j+2<=4 by omega)) (by decide));subst hU;unfold nR;repeat' first|(apply vW hn hlt)|(apply MX;rfl;rfl;(first|omega|(simp only[List.length_set];omega)))|(apply Nh;rfl;rfl;omega;omega)|(apply Ni;rfl;rfl;omega;omega)|(apply Ng;rfl;rfl;omega)|(apply Nc;rfl;rfl;omega)|(apply Mn (s:=fz);rfl;rfl;omega)|apply LL|apply aj|apply LM|apply LN|apply Mo|apply Mp|(apply Mq;rfl)|(apply MS;rfl;(first|(simp only[nca];rfl)|rfl);(first|(simp only[nca];rfl)|rfl))|(apply LS;rfl)|(apply Mx;rfl;rfl)|(apply Mw;rfl;rfl;omega)|(apply MN;rfl;rfl;omega)|(apply LK;rfl;rfl)|(apply LO;rfl;rfl)|(intro _;omega)|intro _
   all_goals try omega
   refine⟨j,by omega,by omega,by omega,by rw[s1];omega,?_,.cons (.cons hw)⟩;refine dD.iK (U:=V) hL hn (by omega) hV ?_ ?_ ?_ ?_;all_goals omega
 . unfold nR;repeat' first|(apply vW hn hlt)|apply LL|apply aj|apply LM|apply LN|apply LU|(apply LR;rfl)|(apply Mx;rfl;rfl)|(apply LK;rfl;rfl)|(intro _;omega)|intro _
   all_goals try omega
   exact⟨i,by omega,hin,rfl,hU,hL,hw⟩
theorem FX {off n u0:Nat}(hn:off+n<=24)(hlt:u0<10^n){L:ah}{iv U:Int}{a1 a3 a4 a5 a6 a7 a8 a9 a11 a12 a13 a14:AV}{lo:List (Nat×AV)}{wr:List Nat}(h:rz L off n u0 8 iv U wr) :
 W M (.seq rv (.seq nR lG)) ⟨⟨[.sl 0 off n 1 cap,a1,.iV iv,a3,a4,a5,a6,a7,a8,a9,.int .u32 U,a11,a12,a13,a14],lo,[some (.cells (aR L) e)],[]⟩,wr⟩ (ry e off n u0):=by
 obtain⟨i,hi,hin,rfl,hU,hL,hw⟩:=h;have hl:=hL.1;have sl:=nP;have hr:=nS hlt hin;by_cases h1:4<=i
 . obtain⟨j,rfl⟩:∃j,i=j+4:=⟨i-4,by omega⟩;have s1:=jt (u:=u0) (n:=n) (j:=j+2) (by omega);have s2:=jt (u:=u0) (n:=n) (j:=j) (by omega);obtain⟨V,hV⟩:∃V,V=u0/10^(n-(j+4)):=⟨_,rfl⟩;rw[show j+2+2=j+4 by omega,←hV]at s1;rw[s1]at s2;rw[←hV]at hU hr;have hV8:V<100000000:=Nat.lt_of_lt_of_le hr (Nat.le_trans (Nat.pow_le_pow_right (by decide) (show j+4<=8 by omega)) (by decide));subst hU;unfold rv;repeat' first|(apply vX hn hlt)|(apply MX;rfl;rfl;(first|omega|(simp only[List.length_set];omega)))|(apply Nh;rfl;rfl;omega;omega)|(apply Ni;rfl;rfl;omega;omega)|(apply Ng;rfl;rfl;omega)|(apply Nc;rfl;rfl;omega)|(apply Mn (s:=fz);rfl;rfl;omega)|apply LL|apply aj|apply LM|apply LN|apply Mo|apply Mp|(apply Mq;rfl)|(apply MS;rfl;(first|(simp only[nca];rfl)|rfl);(first|(simp only[nca];rfl)|rfl))|(apply LS;rfl)|(apply Mx;rfl;rfl)|(apply Mw;rfl;rfl;omega)|(apply MN;rfl;rfl;omega)|(apply LK;rfl;rfl)|(apply LO;rfl;rfl)|(intro _;omega)|intro _
   all_goals try omega
   refine⟨j,by omega,by omega,by omega,by rw[s2];omega,?_,.cons (.cons (.cons (.cons hw)))⟩;refine dD.iK (U:=V/100) (dD.iK (i:=j+2) (U:=V) hL hn (by omega) hV ?_ ?_ ?_ ?_) hn (by omega) s1.symm ?_ ?_ ?_ ?_;all_goals omega
 . unfold rv;repeat' first|(apply vX hn hlt)|apply LL|apply aj|apply LM|apply LN|apply LU|(apply LR;rfl)|(apply Mx;rfl;rfl)|(apply LK;rfl;rfl)|(intro _;omega)|intro _
   all_goals try omega
   exact⟨i,by omega,hin,rfl,hU,hL,hw⟩
theorem FY (hft:M.FT=FT)(off n u0:Nat)(hn:off+n<=24)(hlt:u0<10^n)(hu:u0<18446744073709551616)(L:ah)(hL:L.length=24) :
 ∃L' wr,ed 0 wr/\dD L' off n 0 u0/\aG M 306 [.sl 0 off n 1 cap,.uV (u0:Nat)] [some (.cells (aR L) e)] ⟨.ar [],[some (.cells (aR L') e)],wr⟩:=by
 refine FW (P:=fun L'=>dD L' off n 0 u0) (by rw[hft];exact Fw) (by simp) ?_;have lp:=fun Q a10 a11 a12 a13 a14 hQ a3 a4 a5 a6 a7 a8 a9 lo wr=>FV (M:=M) (cap:=cap) (e:=e) off n u0 hn hu (Q:=Q) a10 a11 a12 a13 a14 hQ L n a3 a4 a5 a6 a7 a8 a9 lo wr (Nat.le_refl _) ⟨hL,fun j h1 h2=>by omega⟩
 simp only[Nat.sub_self,Nat.pow_zero,Nat.div_one]at lp;unfold vH;simp only[enter];repeat' first|apply LL|apply aj|apply LM|apply LN|apply LW|(apply LK;rfl;rfl)|(apply LO;rfl;rfl)
 refine lp _ _ _ _ _ _ (fun L i a3 a4 a5 a6 a7 a8 a9 lo wr hi h8 hL hw=>?_) _ _ _ _ _ _ _ _ _ ed.nil;have hr:=nS hlt hi;have hV:u0/10^(n-i)<4294967296:=Nat.lt_of_lt_of_le hr (Nat.le_trans (Nat.pow_le_pow_right (by decide) (show i<=8 by omega)) (by decide));obtain⟨V,hVe⟩:∃V,V=u0/10^(n-i):=⟨_,rfl⟩;rw[←hVe]at hr hV ⊢;repeat' first|(apply FX hn hlt)|(apply Np;rfl;omega)|apply LL|apply aj|apply LM|apply LN|apply bR|(apply LK;rfl;rfl)|(apply LO;rfl;rfl)
 exact⟨i,h8,hi,rfl,by rw[hVe],hL,hw⟩
section
variable {t:Nat} {x y:aq} {l:List az} {pe:List AV} {lo:List (Nat×AV)} {df wr:List Nat} {k:IntKind} {a:Int} {Q:ak->Prop} {L:ah} {n:Nat}
theorem ND (hx:(St.mk pe lo [some (.cells (aR L) e)] df).aa x=some (.ptr 0 0))(hl:L.length=24)(hy:(St.mk pe lo [some (.cells (aR L) e)] df).aa y=some (.int k a))(ha:a=(n:Int))(hn:n<=24)
 (h:WO M l ⟨⟨pe,(t,.sl 0 0 n 1 (some 24))::lo,[some (.cells (aR L) e)],df⟩,wr⟩ Q):WO M (⟨.l t,.fB 24 1 x none (some y),none⟩::l) ⟨⟨pe,lo,[some (.cells (aR L) e)],df⟩,wr⟩ Q:=by
 subst ha;refine WO.vO (i:=0) (j:=n) hx hl rfl ?_ (by decide) h;simp only[St.bT,hy,Option.map_some,Option.bind_some,aS];rw[if_pos (by omega)];rfl
theorem Nj (hx:(St.mk pe lo [some (.cells (aR L) e)] df).aa x=some (.ptr 0 0))(hl:L.length=24)(hy:(St.mk pe lo [some (.cells (aR L) e)] df).aa y=some (.int k a))(ha:a=1+(n:Int))(hn:n<24)
 (h:WO M l ⟨⟨pe,(t,.sl 0 1 n 1 (some 23))::lo,[some (.cells (aR L) e)],df⟩,wr⟩ Q):WO M (⟨.l t,.fB 24 1 x (some (.c (.iV 1))) (some y),none⟩::l) ⟨⟨pe,lo,[some (.cells (aR L) e)],df⟩,wr⟩ Q:=by
 subst ha;refine WO.vO (i:=1) (j:=n+1) hx hl ?_ ?_ (by decide) h
 . have e1:(St.mk pe lo [some (.cells (aR L) e)] df).aa (.c (.iV 1))=some (.iV 1):=rfl;simp only[St.bT,e1,Option.map_some,Option.bind_some,aS];rw[if_pos (by omega)];rfl
 . simp only[St.bT,hy,Option.map_some,Option.bind_some,aS];rw[if_pos (by omega)];congr 1;omega
theorem NF {hp:ae}{v:Int}(hx:(St.mk pe lo hp df).aa x=some (.uV a))(hv:(0-a)%18446744073709551616=v)
 (h:WO M l ⟨⟨pe,(t,.uV v)::lo,hp,df⟩,wr⟩ Q):WO M (⟨.l t,.un .neg x,none⟩::l) ⟨⟨pe,lo,hp,df⟩,wr⟩ Q:=
 LK (v:=.uV v) (by simp only[aE,hx,Option.bind_some,mf,nB,hv]) rfl h
end
def lH:ah:=List.replicate 24 0
def fl (z:Int):ah:=if z<0 then 45::bo (-z).toNat else bo z.toNat
structure nT (M:ay):Prop where
 ft:M.FT=FT
 vY:∀ars h,M.ext 306 ars h=none
 vZ:∀(n:Nat) h,n<100->M.ext 304 [.iV n] h=some ⟨.str (bo n),h,[]⟩
 rB:∀(d:Int) h,(0<d/\d<18446744073709551616)->M.ext 305 [.uV d] h=some ⟨.iV (dS d),h,[]⟩
theorem nT.wa (C:nT M){e:TypeId}{off:Nat}(u:Nat)(hu:0<u/\u<18446744073709551616)(ho:off<=4) :
 ∃L' wr,ed 0 wr/\L'.length=24/\(L'.drop off).take (dS u)=bo u/\CT M (gE 306) [.sl 0 off (dS u) 1 cap,.uV u] [some (.cells (aR lH) e)] ⟨.ar [],[some (.cells (aR L') e)],wr⟩:=by
 obtain⟨k1,k2,k3,k4⟩:=rp hu;obtain⟨L',wr,hw,hD,hr⟩:=FY (cap:=cap) (e:=e) C.ft off (dS u) u (by omega) k3 hu.2 lH rfl;obtain⟨m,hm⟩:∃m,dS u=m+1:=⟨dS u-1,by omega⟩;refine⟨L',wr,hw,hD.1,?_,CT.run (fi:=[]) (ca:=[]) (C.vY _ _) hr⟩;rw[hD.fin (by omega)];rw[hm]at k3 k4 ⊢;exact(rk k3 (by
  rcases k4 with k4|k4
  . exact .inl (by omega)
  . exact .inr (by simpa using k4))).symm
set_option maxRecDepth 100000 in
theorem Gb (C:nT M)(z:Int)(hz : -9223372036854775808<=z/\z<9223372036854775808):aG M 267 [.iV z,.iV 10] [] ⟨.str (fl z),[],[]⟩:=by
 have hz24:lH.length=24:=rfl;refine ba (by rw[C.ft];exact Fu) (by simp) ?_;unfold vF;simp only[enter];by_cases h:z<0
 . obtain⟨u,hu⟩:∃u:Nat,z = -(u:Int):=⟨(-z).toNat,by omega⟩;have q305:=fun hh=>C.rB u hh (by omega)
   obtain⟨k1,k2,k3,k4⟩:=rp (d:=u) (by omega);obtain⟨L',wr,hw,hl,hd,q306⟩:=C.wa (cap:=some 23) (e:=301) (off:=1) u (by omega) (by decide);have e0:fl z=45::bo u:=by unfold fl;rw[if_pos h];congr 2;omega
   have e1:((L'.set (0+0*1) 45).drop 0).take (1+dS u)=45::bo u:=by
    cases L' with
    | nil=>simp at hl
    | cons c L'=>
     rw[←hd,Nat.add_comm 1];rfl
   rw[e0];repeat' first|(apply Nz;rfl)|(apply NF (v:=(u:Int));rfl;omega)|(apply Nj (L:=lH) (n:=dS u);rfl;exact hz24;rfl;rfl;omega)|(apply MX (L:=L') (c:=45);rfl;rfl;omega)|(apply ND (L:=L'.set (0+0*1) 45) (n:=1+dS u);rfl;(rw[List.length_set];exact hl);rfl;omega;omega)|(apply No (L:=L'.set (0+0*1) 45);rfl;(rw[List.length_set];omega))|apply LL|apply aj|apply LM|apply LN|apply LP|apply LU|apply aF|(apply LS;rfl)|(apply LR;rfl)|(apply Ml;rfl)|(apply Md;rfl;rfl)|(apply MH;rfl;rfl)|(apply Mc;rfl;rfl)|(apply Ma;rfl;rfl)|(apply Mk;rfl;rfl;omega)|(apply LV;rfl;rfl;first|exact q305 _)|(apply Mz;rfl;rfl;first|exact q306)|(apply LX;rfl;rfl;rfl)|(apply LK;rfl;rfl)|(apply LO;rfl;rfl)|(intro _;omega)|intro _
   all_goals try omega
   rw[e1];exact⟨.inr rfl,rfl,_,rfl,rfl,rfl⟩
 . obtain⟨u,hu⟩:∃u:Nat,z=(u:Int):=⟨z.toNat,by omega⟩;have e0:fl z=bo u:=by unfold fl;rw[if_neg h];congr 1;omega
   rw[e0];subst hu;by_cases h1:u<100
   . have q304:=fun hh=>C.vZ u hh h1
     repeat' first|apply LL|apply aj|apply LM|apply LN|apply LP|apply aF|(apply LS;rfl)|(apply Mj;rfl)|(apply Md;rfl;rfl)|(apply MH;rfl;rfl)|(apply Mc;rfl;rfl)|(apply Mb;rfl;rfl)|(apply LV;rfl;rfl;first|exact q304 _)|(apply LK;rfl;rfl)|(apply LO;rfl;rfl)|(intro _;omega)|intro _
     all_goals try omega
     all_goals exact⟨.inr rfl,rfl,_,rfl,rfl,rfl⟩
   . have q305:=fun hh=>C.rB u hh (by omega)
     obtain⟨k1,k2,k3,k4⟩:=rp (d:=u) (by omega);obtain⟨L',wr,hw,hl,hd,q306⟩:=C.wa (cap:=some 23) (e:=301) (off:=1) u (by omega) (by decide);repeat' first|(apply Nj (L:=lH) (n:=dS u);rfl;exact hz24;rfl;rfl;omega)|(apply Nj (L:=L') (n:=dS u);rfl;exact hl;rfl;rfl;omega)|(apply No (L:=L');rfl;omega)|apply LL|apply aj|apply LM|apply LN|apply LP|apply LU|apply aF|(apply LS;rfl)|(apply LR;rfl)|(apply Mj;rfl)|(apply Md;rfl;rfl)|(apply MH;rfl;rfl)|(apply Mc;rfl;rfl)|(apply Nd;rfl;omega)|(apply Mb;rfl;rfl)|(apply Mk;rfl;rfl;omega)|(apply LV;rfl;rfl;first|exact q305 _)|(apply Mz;rfl;rfl;first|exact q306)|(apply LX;rfl;rfl;rfl)|(apply LK;rfl;rfl)|(apply LO;rfl;rfl)|(intro _;omega)|intro _
     all_goals try omega
     rw[hd];exact⟨.inr rfl,rfl,_,rfl,rfl,rfl⟩
theorem Gc (hft:M.FT=FT)(z:Int)(q:∀h,M.ext 267 [.iV z,.iV 10] h=some ⟨.str (fl z),h,[]⟩):aG M 226 [.iV z] [] ⟨.str (fl z),[],[]⟩:=by
 refine ba (by rw[hft];exact Fs) (by simp) ?_;unfold vD;simp only[enter];repeat' first|apply LL|apply aj|apply LM|apply LN|apply LP|(apply LV;rfl;rfl;first|exact q _)|(apply LK;rfl;rfl)|(apply LO;rfl;rfl)
 all_goals exact⟨.inr rfl,rfl,_,rfl,rfl,rfl⟩
theorem Gd (hft:M.FT=FT)(z:Int)(q:∀h,M.ext 226 [.iV z] h=some ⟨.str (fl z),h,[]⟩):aG M 183 [.iV z] [] ⟨.str (fl z),[],[]⟩:=by
 refine ba (by rw[hft];exact Fq) (by simp) ?_;unfold vC;simp only[enter];repeat' first|apply LL|apply aj|apply LM|apply LN|apply LP|(apply LV;rfl;rfl;first|exact q _)|(apply LK;rfl;rfl)|(apply LO;rfl;rfl)
 all_goals exact⟨.inr rfl,rfl,_,rfl,rfl,rfl⟩
set_option maxRecDepth 1000000
def Ge:ao:=.seq (zR [⟨.l 111,.call (kF 302) [(.p 7)],none⟩,zm 112 5,zb 113 .lss 111 112] (.cond (.l 113) (.skip) (.exit 3))) (.block 4 (zR [zm 114 5,⟨.l 115,.call (kF 302) [(.p 7)],none⟩,zb 116 .sub 114 115,⟨.l 117,.call (kF 302) [(.p 7)],none⟩,zm 118 6,⟨.l 119,.mm false [(.l 116),(.l 117),(.l 118)],none⟩,zw 8 119] (.region [⟨.l 120,.call (kF 266) [(.p 7)],none⟩,zm 121 8,⟨.l 122,.slice .str 1 (.l 120) none (some (.l 121)) none,none⟩,⟨.l 123,.call (kF 265) [(.p 7),(.l 122)],none⟩])))
def wb:ao:=zR [⟨.p 2,.mv (.c (.str [])),none⟩] (.seq (zR [⟨.p 9,.mv (.p 1),none⟩] (.block 0 (zR [zq 13 .eql 9 0,zn 12 13] (.cond (.l 12) (zR [⟨.p 2,.mv (.c (.str [])),none⟩] (.ret)) (zR [zq 15 .eql 9 1,zn 14 15] (.cond (.l 14) (zR [zm 16 0,zw 2 16] (.ret)) (.skip))))))) (.seq (zR [zm 17 1,zc 18 .lss 17 0] (.cond (.l 18) (.bad) (.skip))) (zR [zm 21 0,zL 22 21,⟨.l 23,.dh .u64 (.l 22),none⟩,zm 24 1,⟨.l 25,.dh .u64 (.l 24),none⟩,z2 26 300 23 25,zn 20 26,ze 27 0 20,ze 28 1 20,zw 3 27,zw 4 28] (.seq (zR [zm 29 3,⟨.l 30,.bin .gtr (.l 29) (kU 0),none⟩,zn 31 30,zg (zm 32 4) 31 false,⟨.l 33,.bin .gtr (.l 32) (kU 9223372036854775807),some ((.l 31),false)⟩,zP 34 31 33] (.cond (.l 34) (.bad) (.skip))) (zR [zm 36 4,⟨.l 37,.dh .i64 (.l 36),none⟩,zw 5 37] (.seq (zR [zm 38 0,zL 39 38,zc 40 .eql 39 0] (.cond (.l 40) (zR [⟨.p 2,.mv (.c (.str [])),none⟩] (.ret)) (.skip))) (.seq (zR [zm 41 0,⟨.p 10,.index (.l 41) (kI 0),none⟩] (.block 1 (.seq (zR [⟨.l 44,.bin .eql (.p 10) (.c (.int .u8 (32))),none⟩,zw 11 44] (.cond (.p 11) (.skip) (zR [⟨.l 45,.bin .eql (.p 10) (.c (.int .u8 (45))),none⟩,zw 11 45] (.cond (.p 11) (.skip) (zR [⟨.l 46,.bin .eql (.p 10) (.c (.int .u8 (48))),none⟩,zw 11 46] (.cond (.p 11) (.skip) (zR [⟨.l 47,.bin .eql (.p 10) (.c (.int .u8 (61))),none⟩,zw 11 47] (.cond (.p 11) (.skip) (.region [⟨.l 48,.bin .eql (.p 10) (.c (.int .u8 (9))),none⟩,zw 11 48]))))))))) (.cond (.p 11) (.block 2 (zR [zm 50 5,zc 51 .leq 50 128,zn 52 51,zg (zm 53 0) 52 true,⟨.l 54,.call (kF 212) [(.c (.str zD5)),(.l 53)],some ((.l 52),true)⟩,zp 55 52 54,zn 49 55] (.cond (.l 49) (zR [zm 56 5,⟨.l 57,.slice .str 1 (.c (.str zD5)) none (some (.l 56)) none,none⟩,zw 2 57] (.ret)) (zR [zm 59 5,zc 60 .leq 59 128,zn 61 60,zg (zm 62 0) 61 true,⟨.l 63,.call (kF 212) [(.c (.str zD3)),(.l 62)],some ((.l 61),true)⟩,zp 64 61 63,zn 58 64] (.cond (.l 58) (zR [zm 65 5,⟨.l 66,.slice .str 1 (.c (.str zD3)) none (some (.l 65)) none,none⟩,zw 2 66] (.ret)) (zR [zm 68 5,zc 69 .leq 68 64,zn 70 69,zg (zm 71 0) 70 true,⟨.l 72,.call (kF 212) [(.c (.str zD4)),(.l 71)],some ((.l 70),true)⟩,zp 73 70 72,zn 67 73] (.cond (.l 67) (zR [zm 74 5,⟨.l 75,.slice .str 1 (.c (.str zD4)) none (some (.l 74)) none,none⟩,zw 2 75] (.ret)) (zR [zm 77 5,zc 78 .leq 77 128,zn 79 78,zg (zm 80 0) 79 true,⟨.l 81,.call (kF 212) [(.c (.str zD6)),(.l 80)],some ((.l 79),true)⟩,zp 82 79 81,zn 76 82] (.cond (.l 76) (zR [zm 83 5,⟨.l 84,.slice .str 1 (.c (.str zD6)) none (some (.l 83)) none,none⟩,zw 2 84] (.ret)) (zR [zm 86 5,zc 87 .leq 86 64,zn 88 87,zg (zm 89 0) 88 true,⟨.l 90,.call (kF 212) [(.c (.str zD7)),(.l 89)],some ((.l 88),true)⟩,zp 91 88 90,zn 85 91] (.cond (.l 85) (zR [zm 92 5,⟨.l 93,.slice .str 1 (.c (.str zD7)) none (some (.l 92)) none,none⟩,zw 2 93] (.ret)) (.skip)))))))))))) (.skip))))) (zR [zm 94 5,zw 6 94] (.seq (zR [zm 95 5,zc 96 .gtr 95 8192] (.cond (.l 96) (zR [zm 97 0,zL 98 97,⟨.l 99,.bin .quo (kI 8192) (.l 98),none⟩,zm 100 0,zL 101 100,zb 102 .mul 99 101,zw 6 102] (zR [zm 103 6,zc 104 .eql 103 0] (.cond (.l 104) (.region [zm 105 0,zL 106 105,zw 6 106]) (.skip)))) (.skip))) (zR [⟨.p 7,.alloc 269 [.cT,.al],none⟩] (zR [zm 107 5,⟨.l 108,.call (kF 301) [(.p 7),(.l 107)],none⟩] (zR [zm 109 0,⟨.l 110,.call (kF 265) [(.p 7),(.l 109)],none⟩] (.seq (.block 3 (.loop Ge)) (zR [⟨.l 124,.call (kF 266) [(.p 7)],none⟩,zw 2 124] (.ret)))))))))))))))
theorem Gf:FT 264=some ⟨125,[0,1,4,5,6,7,8,9,10,11,42,43],[.var (.p 2)],wb⟩:=by kernel_rfl
def wc:ao:=zR [⟨.p 2,.mv (kU 0),none⟩,⟨.p 3,.mv (kU 0),none⟩] (.seq (.cond (.c (.bool false)) (zR [zm 11 0,⟨.l 12,.dh .u32 (.l 11),none⟩,zm 13 1,⟨.l 14,.dh .u32 (.l 13),none⟩,z2 15 321 12 14,zn 10 15,ze 16 0 10,ze 17 1 10,zw 4 16,zw 5 17] (zR [zm 18 4,⟨.l 19,.dh .u64 (.l 18),none⟩,zm 20 5,⟨.l 21,.dh .u64 (.l 20),none⟩,zw 2 19,zw 3 21] (.ret))) (.skip)) (zR [zm 23 0,zm 24 1,z2 25 244 23 24,zn 22 25,ze 26 0 22,ze 27 1 22,zw 6 26,zw 7 27] (zR [zm 28 6,zm 29 7,zw 2 28,zw 3 29] (.ret))))
theorem Gg:FT 300=some ⟨30,[0,1,4,5,6,7,8,9],[.var (.p 2),.var (.p 3)],wc⟩:=by kernel_rfl
end Go.Ab.Ch1

/-
  Own work: decimal texts in parts of 18 digits.
-/
namespace Go.Ab.aI
end Go.Ab.aI

/-
  Own work: the code of texts of integers and fractions.
-/
namespace Go.Ab.Ch1
set_option maxRecDepth 1000000
open Go.Ab.aI
variable {M:ay} {cap:Option Nat} {N:Nat}
variable {N2:Nat}
def nU:List AV:=List.replicate 256 (.bool false)
def we:ao:=zR [⟨.p 2,.mv (.c (.bool false)),none⟩] (zR [zm 5 0,zm 6 1,z2 7 255 5 6,zw 2 7] (.ret))
theorem Gh:FT 212=some ⟨8,[0,1,4],[.var (.p 2)],we⟩:=by kernel_rfl
def rC:ao:=zR [⟨.p 2,.mv (.c (.bool false)),none⟩] (zR [zm 5 0,zL 6 5,zm 7 1,zL 8 7,zb 9 .geq 6 8,zn 10 9,zg (zm 11 0) 10 true,zg (zm 12 1) 10 true,zg (zL 13 12) 10 true,⟨.l 14,.slice .str 1 (.l 11) none (some (.l 13)) none,some ((.l 10),true)⟩,zg (zm 15 1) 10 true,zg (zb 16 .eql 14 15) 10 true,zp 17 10 16,zw 2 17] (.ret))
theorem Gi:FT 255=some ⟨18,[0,1,4],[.var (.p 2)],rC⟩:=by kernel_rfl
def wg:ao:=zR [zi 1 0,⟨.p 2,.mv (.c (.cg)),none⟩] (zR [zm 7 0,z1 8 259 7,zn 6 8,ze 9 0 6,ze 10 1 6,zw 3 9,zw 4 10] (.seq (zR [zm 11 4,⟨.l 12,.eq true (.iface false) (.l 11) (.c (.cg)),none⟩] (.cond (.l 12) (zR [zm 13 3,zm 14 0,zm 15 4,⟨.l 16,.call (kF 260) [(.c (.str zD8)),(.l 14),(kI 0),(kI 0),(.l 15)],none⟩,zw 1 13,zw 2 16] (.ret)) (.skip))) (zR [zm 17 3,zw 1 17,⟨.p 2,.mv (.c (.cg)),none⟩] (.ret))))
theorem Gj:FT 214=some ⟨18,[0,2,3,4,5],[.var (.p 1),.var (.p 2)],wg⟩:=by kernel_rfl
def nV:ao:=zR [zr 50 .lss 11 10] (.seq (.cond (.l 50) (.skip) (.exit 0)) (.seq (.block 1 (zR [⟨.l 51,.dE none 1 (.p 9) (.p 11),none⟩,zd 52 1 51,zw 6 52] (zR [zm 53 6,⟨.l 54,.bin .sub (.l 53) (.c (.int .u8 (48))),none⟩,zw 6 54] (.seq (zR [zm 55 6,⟨.l 56,.bin .gtr (.l 55) (.c (.int .u8 (9))),none⟩] (.cond (.l 56) (zR [⟨.l 57,.kG 291 (kI 2),none⟩,zi 1 0,zw 2 57] (.ret)) (.skip))) (.region [zm 58 5,zc 59 .mul 58 10,zm 60 6,⟨.l 61,.dh .i64 (.l 60),none⟩,zb 62 .add 59 61,zw 5 62]))))) (.region [zq 63 .add 11 1,zw 11 63])))
def wh:ao:=zR [zi 1 0,⟨.p 2,.mv (.c (.cg)),none⟩] (zR [zm 11 0,zL 12 11,zw 3 12] (.seq (zR [⟨.l 13,.mv (.c (.bool false)),none⟩,zg (zm 14 3) 13 true,⟨.l 15,.bin .lss (kI 0) (.l 14),some ((.l 13),true)⟩,zg (zn 16 15) 13 true,zg (zm 17 3) 16 true,zg (zc 18 .lss 17 10) 16 true,zg (zp 19 16 18) 13 true,zp 20 13 19,zn 21 20,⟨.l 22,.mv (.c (.bool true)),some ((.l 21),false)⟩,zg (zm 23 3) 22 true,⟨.l 24,.bin .lss (kI 0) (.l 23),some ((.l 22),true)⟩,zg (zn 25 24) 22 true,zg (zm 26 3) 25 true,zg (zc 27 .lss 26 19) 25 true,zg (zp 28 25 27) 22 true,zg (zp 29 22 28) 21 false,zP 30 21 29] (.cond (.l 30) (zR [zm 31 0,zw 4 31] (.seq (zR [zm 32 0,⟨.l 33,.index (.l 32) (kI 0),none⟩,⟨.l 34,.bin .eql (.l 33) (.c (.int .u8 (45))),none⟩,zn 35 34,zg (zm 36 0) 35 false,⟨.l 37,.index (.l 36) (kI 0),some ((.l 35),false)⟩,⟨.l 38,.bin .eql (.l 37) (.c (.int .u8 (43))),some ((.l 35),false)⟩,zP 39 35 38] (.cond (.l 39) (zR [zm 40 0,⟨.l 41,.slice .str 1 (.l 40) (some (kI 1)) none none,none⟩,zw 0 41] (zR [zm 42 0,zL 43 42,zc 44 .lss 43 1] (.cond (.l 44) (zR [⟨.l 45,.kG 291 (kI 2),none⟩,zi 1 0,zw 2 45] (.ret)) (.skip)))) (.skip))) (zR [zi 5 0] (.seq (zR [zm 46 0,⟨.p 9,.jD 5 (.l 46),none⟩,⟨.p 10,.len .sl (.p 9),none⟩,zi 11 0] (.block 0 (.loop nV))) (.seq (zR [zm 64 4,⟨.l 65,.index (.l 64) (kI 0),none⟩,⟨.l 66,.bin .eql (.l 65) (.c (.int .u8 (45))),none⟩] (.cond (.l 66) (.region [zm 67 5,⟨.l 68,.un .neg (.l 67),none⟩,zw 5 68]) (.skip))) (zR [zm 69 5,zw 1 69,⟨.p 2,.mv (.c (.cg)),none⟩] (.ret))))))) (.skip))) (zR [zm 71 0,⟨.l 72,.call (kF 293) [(.l 71),(kI 10),(kI 0)],none⟩,zn 70 72,ze 73 0 70,ze 74 1 70,zw 7 73,zw 8 74] (zR [zm 75 7,zm 76 8,zw 1 75,zw 2 76] (.ret)))))
theorem Gk:FT 259=some ⟨77,[0,2,3,4,5,6,8,9,10,47,48,49],[.var (.p 1),.var (.p 2)],wh⟩:=by kernel_rfl
def wi:ao:=zR [⟨.p 2,.mv (.c (.str [])),none⟩,⟨.p 3,.mv (.c (.str [])),none⟩,⟨.p 4,.mv (.c (.bool false)),none⟩] (zR [zm 7 0,zm 8 1,z2 9 208 7 8,ze 10 0 9,ze 11 1 9,ze 12 2 9,zw 2 10,zw 3 11,zw 4 12] (.ret))
theorem Gl:FT 163=some ⟨13,[0,1,4,5,6],[.var (.p 2),.var (.p 3),.var (.p 4)],wi⟩:=by kernel_rfl
def rD:ao:=zR [⟨.p 2,.mv (.c (.str [])),none⟩,⟨.p 3,.mv (.c (.str [])),none⟩,⟨.p 4,.mv (.c (.bool false)),none⟩] (.seq (zR [zm 8 0,zm 9 1,z2 10 256 8 9,zw 5 10] (zR [zm 11 5,zc 12 .geq 11 0] (.cond (.l 12) (.seq (.draw [(zm 13 0,[]),(zm 14 5,[0]),(⟨.l 15,.slice .str 1 (.l 13) none (some (.l 14)) none,none⟩,[]),(zm 16 0,[0,1,2]),(zm 17 5,[0,1,2,3]),(zm 18 1,[0,1,2,3,4]),(zL 19 18,[0,1,2,3,4]),(zb 20 .add 17 19,[0,1,2,3]),(⟨.l 21,.slice .str 1 (.l 16) (some (.l 20)) none none,none⟩,[0,1,2]),(zw 2 15,[3,4,5,6,7,8]),(zw 3 21,[]),(⟨.p 4,.mv (.c (.bool true)),none⟩,[])]) (.ret)) (.skip)))) (zR [zm 22 0,zw 2 22,⟨.p 3,.mv (.c (.str [])),none⟩,⟨.p 4,.mv (.c (.bool false)),none⟩] (.ret)))
theorem Gm:FT 208=some ⟨23,[0,1,4,5,6,7],[.var (.p 2),.var (.p 3),.var (.p 4)],rD⟩:=by kernel_rfl
def Gn:ao:=.seq (zR [zm 57 6,zm 58 7,zb 59 .lss 57 58] (.cond (.l 59) (.skip) (.exit 1))) (.block 2 (.seq (zR [zm 60 0,zm 61 6,⟨.l 62,.index (.l 60) (.l 61),none⟩,zm 63 4,zb 64 .neq 62 63] (.cond (.l 64) (zR [zm 65 0,zm 66 6,zc 67 .add 66 1,zm 68 7,⟨.l 69,.slice .str 1 (.l 65) (some (.l 67)) (some (.l 68)) none,none⟩,zm 70 4,z2 71 282 69 70,zw 9 71] (.seq (zR [zm 72 9,zc 73 .lss 72 0] (.cond (.l 73) (zR [zi 2 (-1)] (.ret)) (.skip))) (.region [zm 74 6,zm 75 9,zc 76 .add 75 1,zb 77 .add 74 76,zw 6 77]))) (.skip))) (.seq (zR [zm 78 0,zm 79 6,zc 80 .add 79 1,⟨.l 81,.index (.l 78) (.l 80),none⟩,zm 82 5,zb 83 .eql 81 82,zn 84 83,zg (zm 85 0) 84 true,zg (zm 86 6) 84 true,zg (zm 87 6) 84 true,zg (zm 88 3) 84 true,zg (zb 89 .add 87 88) 84 true,⟨.l 90,.slice .str 1 (.l 85) (some (.l 86)) (some (.l 89)) none,some ((.l 84),true)⟩,zg (zm 91 1) 84 true,zg (zb 92 .eql 90 91) 84 true,zp 93 84 92] (.cond (.l 93) (zR [zm 94 6,zw 2 94] (.ret)) (.skip))) (zR [zm 95 6,zc 96 .add 95 1,zw 6 96] (zR [zm 97 8,zc 98 .add 97 1,zw 8 98] (.seq (.bad) (.cond (.l 107) (zR [zm 108 0,zm 109 6,⟨.l 110,.slice .str 1 (.l 108) (some (.l 109)) none none,none⟩,zm 111 1,z2 112 283 110 111,zw 10 112] (.seq (zR [zm 113 10,zc 114 .geq 113 0] (.cond (.l 114) (zR [zm 115 10,zm 116 6,zb 117 .add 115 116,zw 2 117] (.ret)) (.skip))) (zR [zi 2 (-1)] (.ret)))) (.seq (.bad) (.cond (.l 132) (zR [zm 133 0,zm 134 6,⟨.l 135,.slice .str 1 (.l 133) (some (.l 134)) none none,none⟩,zm 136 1,z2 137 285 135 136,zw 11 137] (.seq (zR [zm 138 11,zc 139 .lss 138 0] (.cond (.l 139) (zR [zi 2 (-1)] (.ret)) (.skip))) (zR [zm 140 6,zm 141 11,zb 142 .add 140 141,zw 2 142] (.ret)))) (.skip))))))))))
def wj:ao:=zR [zi 2 0] (zR [zm 14 1,zL 15 14,zw 3 15] (.seq (.block 0 (zR [zm 17 3,zc 18 .eql 17 0,zn 19 18,zg (zm 20 1) 19 false,zg (zm 21 0) 19 false,zg (zb 22 .eql 20 21) 19 false,zP 23 19 22,zn 16 23] (.cond (.l 16) (zR [zi 2 0] (.ret)) (zR [zm 25 3,zc 26 .eql 25 1,zn 24 26] (.cond (.l 24) (zR [zm 27 0,zm 28 1,⟨.l 29,.index (.l 28) (kI 0),none⟩,z2 30 282 27 29,zw 2 30] (.ret)) (zR [zm 32 3,zm 33 0,zL 34 33,zb 35 .geq 32 34,zn 31 35] (.cond (.l 31) (zR [zi 2 (-1)] (.ret)) (.seq (.bad) (.cond (.l 36) (zR [zm 45 0,zm 46 1,z2 47 283 45 46,zw 2 47] (.ret)) (.skip)))))))))) (zR [zm 48 1,⟨.l 49,.index (.l 48) (kI 0),none⟩,zw 4 49] (zR [zm 50 1,⟨.l 51,.index (.l 50) (kI 1),none⟩,zw 5 51] (zR [zi 6 0] (zR [zm 52 0,zL 53 52,zm 54 3,zb 55 .sub 53 54,zc 56 .add 55 1,zw 7 56] (zR [zi 8 0] (.seq (.block 1 (.loop Gn)) (zR [zi 2 (-1)] (.ret))))))))))
theorem Gp:FT 256=some ⟨143,[0,1,4,5,6,7,8,9,10,11,12,13],[.var (.p 2)],wj⟩:=by kernel_rfl
def wk:ao:=zR [zi 2 0] (zR [zm 5 0,zm 6 1,z2 7 312 5 6,zw 2 7] (.ret))
theorem Gq:FT 282=some ⟨8,[0,1,4],[.var (.p 2)],wk⟩:=by kernel_rfl
def wm:ao:=zR [⟨.p 1,.mv (.c (.bool false)),none⟩] (zR [zm 3 0,⟨.l 4,.bin .neq (.l 3) (.c (.str [])),none⟩,zn 5 4,zg (zm 6 0) 5 true,⟨.l 7,.call (kF 257) [(.l 6),(.c (.str zD9))],some ((.l 5),true)⟩,⟨.l 8,.bin .eql (.l 7) (.c (.str [])),some ((.l 5),true)⟩,zp 9 5 8,zw 1 9] (.ret))
theorem Gr:FT 209=some ⟨10,[0,2],[.var (.p 1)],wm⟩:=by kernel_rfl
def wo:ao:=zR [⟨.p 2,.mv (.c (.str [])),none⟩] (.seq (zR [zm 7 0,⟨.l 8,.bin .eql (.l 7) (.c (.str [])),none⟩,zn 9 8,zg (zm 10 1) 9 false,⟨.l 11,.bin .eql (.l 10) (.c (.str [])),some ((.l 9),false)⟩,zP 12 9 11] (.cond (.l 12) (zR [zm 13 0,zw 2 13] (.ret)) (.skip))) (.seq (zR [zm 14 1,zL 15 14,zc 16 .eql 15 1,zn 17 16,zg (zm 18 1) 17 true,⟨.l 19,.index (.l 18) (kI 0),some ((.l 17),true)⟩,⟨.l 20,.bin .lss (.l 19) (.c (.int .u8 (128))),some ((.l 17),true)⟩,zp 21 17 20] (.cond (.l 21) (.seq (.draw [(zm 22 0,[]),(zm 23 1,[0]),(⟨.l 24,.index (.l 23) (kI 0),none⟩,[0]),(z2 25 287 22 24,[]),(zm 26 1,[0,1,2,3]),(⟨.l 27,.index (.l 26) (kI 0),none⟩,[0,1,2,3]),(z2 28 286 25 27,[]),(zw 2 28,[])]) (.ret)) (.skip))) (.seq (zR [zm 30 1,z1 31 288 30,zn 29 31,ze 32 0 29,ze 33 1 29,⟨.p 3,.alloc 286 nU,none⟩,zs 256 3 32,zw 4 33] (zR [zm 34 4] (.cond (.l 34) (zR [zm 35 0,⟨.l 36,.call (kF 290) [(.l 35),(.p 3)],none⟩,⟨.l 37,.call (kF 289) [(.l 36),(.p 3)],none⟩,zw 2 37] (.ret)) (.skip)))) (zR [zm 38 0,zm 39 1,z2 40 292 38 39,zm 41 1,z2 42 291 40 41,zw 2 42] (.ret)))))
theorem Gs:FT 257=some ⟨43,[0,1,4,5,6],[.var (.p 2)],wo⟩:=by kernel_rfl
def Gt:ao:=.seq (zR [zm 6 3,zm 7 0,zL 8 7,zb 9 .lss 6 8] (.cond (.l 9) (.skip) (.exit 0))) (.seq (.block 1 (zR [zm 12 0,zm 13 3,⟨.l 14,.index (.l 12) (.l 13),none⟩,zw 4 14] (.seq (zR [zm 15 4,⟨.l 16,.bin .geq (.l 15) (.c (.int .u8 (128))),none⟩] (.cond (.l 16) (zR [zt 17 256 1,zs 256 1 17,⟨.p 2,.mv (.c (.bool false)),none⟩] (.ret)) (.skip))) (.region [zm 18 4,⟨.l 19,.dE (some 256) 1 (.p 1) (.l 18),none⟩,⟨.no,.store 1 (.l 19) (.c (.bool true)),none⟩])))) (.region [zm 10 3,zc 11 .add 10 1,zw 3 11]))
def rE:ao:=zR [⟨.p 1,.alloc 286 nU,none⟩,⟨.p 2,.mv (.c (.bool false)),none⟩] (.seq (zR [zi 3 0] (.block 0 (.loop Gt))) (zR [zt 20 256 1,zs 256 1 20,⟨.p 2,.mv (.c (.bool true)),none⟩] (.ret)))
theorem Gu:FT 288=some ⟨21,[0,2,3,4,5],[.cell 256 true (.p 1),.var (.p 2)],rE⟩:=by kernel_rfl
def lI:ao:=.seq (zR [zm 5 0,zL 6 5,zc 7 .gtr 6 0] (.cond (.l 7) (.skip) (.exit 0))) (.block 1 (.seq (zR [zm 8 1,zm 9 0,⟨.l 10,.index (.l 9) (kI 0),none⟩,z2 11 314 8 10,zu 12 11] (.cond (.l 12) (.exit 0) (.skip))) (.region [zm 13 0,⟨.l 14,.slice .str 1 (.l 13) (some (kI 1)) none none,none⟩,zw 0 14])))
def wq:ao:=zR [⟨.p 2,.mv (.c (.str [])),none⟩] (.seq (.block 0 (.loop lI)) (zR [zm 15 0,zw 2 15] (.ret)))
theorem Gv:FT 289=some ⟨16,[0,1,4],[.var (.p 2)],wq⟩:=by kernel_rfl
def lJ:ao:=.seq (zR [zm 5 0,zL 6 5,zc 7 .gtr 6 0] (.cond (.l 7) (.skip) (.exit 0))) (.block 1 (.seq (zR [zm 8 1,zm 9 0,zm 10 0,zL 11 10,zc 12 .sub 11 1,⟨.l 13,.index (.l 9) (.l 12),none⟩,z2 14 314 8 13,zu 15 14] (.cond (.l 15) (.exit 0) (.skip))) (.region [zm 16 0,zm 17 0,zL 18 17,zc 19 .sub 18 1,⟨.l 20,.slice .str 1 (.l 16) none (some (.l 19)) none,none⟩,zw 0 20])))
def wu:ao:=zR [⟨.p 2,.mv (.c (.str [])),none⟩] (.seq (.block 0 (.loop lJ)) (zR [zm 21 0,zw 2 21] (.ret)))
theorem Gw:FT 290=some ⟨22,[0,1,4],[.var (.p 2)],wu⟩:=by kernel_rfl
def wv:ao:=zR [⟨.p 2,.mv (.c (.bool false)),none⟩] (zR [zm 5 0,zm 6 1,⟨.l 7,.mc (.l 5),none⟩,⟨.l 8,.dE (some 256) 1 (.l 7) (.l 6),none⟩,zd 9 1 8,zw 2 9] (.ret))
theorem Gx:FT 314=some ⟨10,[0,1,4],[.var (.p 2)],wv⟩:=by kernel_rfl
def wx:ao:=zR [⟨.p 1,.mv (.c (.bool false)),none⟩] (zR [zm 3 0,z1 4 209 3,zn 5 4,zg (zm 6 0) 5 true,⟨.l 7,.index (.l 6) (kI 0),some ((.l 5),true)⟩,⟨.l 8,.bin .neq (.l 7) (.c (.int .u8 (48))),some ((.l 5),true)⟩,zg (zn 9 8) 5 true,zg (zm 10 0) 9 false,⟨.l 11,.bin .eql (.l 10) (.c (.str [48])),some ((.l 9),false)⟩,zg (zP 12 9 11) 5 true,zp 13 5 12,zw 1 13] (.ret))
theorem Gy:FT 164=some ⟨14,[0,2],[.var (.p 1)],wx⟩:=by kernel_rfl
end Go.Ab.Ch1
