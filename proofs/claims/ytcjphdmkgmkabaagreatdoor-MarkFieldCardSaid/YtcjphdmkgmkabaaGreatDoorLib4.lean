/-
  Own work: integers of any size: differences, absolute values, comparisons, machine integers.
-/
import Derived.Test.YtcjphdmkgmkabaaGreatDoorLib3
import Derived.Test.YtcjphdmkgmkabaaGreatDoorCh1Base
import Derived.Test.YtcjphdmkgmkabaaGreatDoorLib2
set_option maxHeartbeats 8000000
namespace Go.Ab.Ch1
open Go.Ab.bz
variable {M:aO} {cap:Option Nat} {N:Nat}
def Op1 (M:aO)(N g:Nat)(f:Int->Int):Prop:=∀v z,aL v z->an z<wB^N->∃v0,aL v0 (f z)/\∀h,M.ext g [v] h=some ⟨v0,h,[]⟩
def vc (M:aO)(N g:Nat)(f:Int->Int->Int):Prop:=∀a b x y,aL a x->aL b y->an x<wB^N->an y<wB^N->∃v0,aL v0 (f x y)/\∀h,M.ext g [a,b] h=some ⟨v0,h,[]⟩
structure AM (M:aO)(N:Nat):Prop extends CI M N where
 kH:Op1 M N 216 (fun z=>-z)
 pL:vc M N 202 (· + ·)
structure CJ (M:aO)(N:Nat):Prop extends AM M N where
 AN:vc M N 217 (· - ·)
 nw:∀v z,aL v z->∀h,M.ext 211 [v] h=some ⟨.iV (bD z),h,[]⟩
theorem jU {z:Int}:an (-z)=an z:=by unfold an;split <;> split <;> omega
theorem RQ (C:AM M N){a b:AV}{x y:Int}(ha:aL a x)(hb:aL b y)(lx:an x<wB^N)(ly:an y<wB^N):∃v0,aL v0 (x-y)/\cW M 217 [a,b] v0:=by
 obtain⟨v1,h1,q216⟩:=C.kH b y hb ly
 obtain⟨v0,h0,q202⟩:=C.pL a v1 x (-y) ha h1 lx (by rw[jU];exact ly)
 have h0:aL v0 (x-y):=by rw[Int.sub_eq_add_neg];exact h0
 refine⟨v0,h0,cT (by rw[C.ft];exact RE) (by simp) ?_⟩
 have out:=fun hh=>h0.out (hh:=hh)
 unfold Hd
 simp only[enter]
 cases ha
 all_goals
 . cases hb
   all_goals
   . cases h0
     all_goals
     . repeat' first|(apply WD.dL;rfl;rfl;(first|(simp only[nca];rfl)|rfl);first|exact q216 _|exact q202 _)|(apply WO.fI;rfl;rfl;exact⟨rfl,by first|exact Nat.le_refl _|decide|(simp[overwrite]),rfl⟩;rfl)|(apply WO.fu;rfl;(first|(focus((repeat' first|exact cn|assumption|apply cG);done))|exact cI (by simp));rfl)|apply W.seq|apply ab|apply W.region|apply WO.nil|apply W.ret|apply W.draw|apply WD.nil|(apply WD.dc;rfl;rfl;(first|(simp only[nca];rfl)|rfl))|(apply WD.eh;rfl;(first|(simp only[nca];rfl)|rfl);(first|(simp only[nca];rfl)|rfl))|(apply WO.aX;rfl;rfl;rfl)
       all_goals exact cw rfl rfl (out _)
theorem RR (C:CJ M N){v:AV}{z:Int}(hv:aL v z)(lz:an z<wB^N):∃v0,aL v0 (an z)/\cW M 210 [v] v0:=by
 by_cases hn:z<0
 . obtain⟨v0,h0,q216⟩:=C.kH v z hv lz
   have h0:aL v0 (an z):=by rw[show an z = -z from if_pos hn];exact h0
   refine⟨v0,h0,cT (by rw[C.ft];exact Hc) (by simp) ?_⟩
   have out:=fun hh=>h0.out (hh:=hh)
   unfold AI
   simp only[enter]
   cases hv with
   | small h=>
    cases h0
    all_goals
    . repeat' first|apply W.seq|apply ab|apply W.region|apply WO.nil|apply W.ret|apply ba|(apply W.ax;rfl)|(apply WO.lss;rfl;rfl)|(apply WO.ay;rfl;rfl;first|exact q216 _)|(apply WO.fI;rfl;rfl;exact⟨rfl,by first|exact Nat.le_refl _|decide|(simp[overwrite]),rfl⟩;rfl)|(apply WO.fu;rfl;(first|(focus((repeat' first|exact cn|assumption|apply cG);done))|exact cI (by simp));rfl)|(apply WO.aX;rfl;rfl;rfl)|(apply WO.pl;rfl;rfl)|(intro _;omega)|intro _
      all_goals try omega
      all_goals exact cw rfl rfl (out _)
   | @eC σ z w hs ok nr hw hz=>
    have e:σ<0:=by rcases hs with rfl|rfl <;> omega
    cases h0
    all_goals
    . repeat' first|apply W.seq|apply ab|apply W.region|apply WO.nil|apply W.ret|apply ba|(apply W.ax;rfl)|(apply WO.lss;rfl;rfl)|(apply WO.ay;rfl;rfl;first|exact q216 _)|(apply WO.fI;rfl;rfl;exact⟨rfl,by first|exact Nat.le_refl _|decide|(simp[overwrite]),rfl⟩;rfl)|(apply WO.fu;rfl;(first|(focus((repeat' first|exact cn|assumption|apply cG);done))|exact cI (by simp));rfl)|(apply WO.aX;rfl;rfl;rfl)|(apply WO.pl;rfl;rfl)|(intro _;omega)|intro _
      all_goals try omega
      all_goals exact cw rfl rfl (out _)
 . have e:an z=z:=if_neg hn
   rw[e]
   refine⟨v,hv,cT (by rw[C.ft];exact Hc) (by simp) ?_⟩
   have out:=fun hh=>hv.out (hh:=hh)
   unfold AI
   simp only[enter]
   cases hv with
   | small h=>
    repeat' first|apply W.seq|apply ab|apply W.region|apply WO.nil|apply W.ret|apply W.skip|(apply W.aw;rfl)|(apply WO.lss;rfl;rfl)|(apply WO.fI;rfl;rfl;exact⟨rfl,by first|exact Nat.le_refl _|decide|(simp[overwrite]),rfl⟩;rfl)|(apply WO.fu;rfl;(first|(focus((repeat' first|exact cn|assumption|apply cG);done))|exact cI (by simp));rfl)|(apply WO.aX;rfl;rfl;rfl)|(apply WO.pl;rfl;rfl)|(intro _;omega)|intro _
    all_goals try omega
    all_goals exact cw rfl rfl (out _)
   | @eC σ z w hs ok nr hw hz=>
    have e:¬σ<0:=by rcases hs with rfl|rfl <;> omega
    repeat' first|apply W.seq|apply ab|apply W.region|apply WO.nil|apply W.ret|apply W.skip|(apply W.aw;rfl)|(apply WO.lss;rfl;rfl)|(apply WO.fI;rfl;rfl;exact⟨rfl,by first|exact Nat.le_refl _|decide|(simp[overwrite]),rfl⟩;rfl)|(apply WO.fu;rfl;(first|(focus((repeat' first|exact cn|assumption|apply cG);done))|exact cI (by simp));rfl)|(apply WO.aX;rfl;rfl;rfl)|(apply WO.pl;rfl;rfl)|(intro _;omega)|intro _
    all_goals try omega
    all_goals exact cw rfl rfl (out _)
theorem Hk {x y:Int}:bD (x-y)=if x<y then -1 else if y<x then 1 else 0:=by
 unfold bD
 by_cases h:x<y
 . rw[if_pos h,if_pos (by omega)]
 . rw[if_neg h,if_neg (by omega)]
   by_cases h':y<x
   . rw[if_pos h',if_pos (by omega)]
   . rw[if_neg h',if_neg (by omega)]
theorem RS (C:CJ M N){a b:AV}{x y:Int}(ha:aL a x)(hb:aL b y)(lx:an x<wB^N)(ly:an y<wB^N):cW M 167 [a,b] (.iV (bD (x-y))):=by
 obtain⟨v0,h0,q217⟩:=C.AN a b x y ha hb lx ly
 have q211:=C.nw v0 (x-y) h0
 refine cT (by rw[C.ft];exact RF) (by simp) ?_
 unfold He
 simp only[enter]
 cases ha with
 | small h=>
  cases hb with
  | small h'=>
   by_cases h1:x<y
   . rw[Hk,if_pos h1]
     repeat' first|apply W.seq|apply ab|apply W.region|apply WO.nil|apply W.block|apply W.ret|apply ba|apply cN|(apply W.ax;rfl)|(apply WO.gT;rfl)|(apply WO.lss;rfl;rfl)|(apply WO.bn;rfl;rfl)|(apply WO.fu;rfl;(first|(focus((repeat' first|exact cn|assumption|apply cG);done))|exact cI (by simp));rfl)|(apply WO.aX;rfl;rfl;rfl)|(apply WO.pl;rfl;rfl)|(apply WO.pp;rfl;rfl)|(intro _;omega)|intro _
     all_goals try omega
     all_goals exact cw rfl rfl (.same rfl rfl)
   . rw[Hk,if_neg h1]
     by_cases h2:y<x
     . rw[if_pos h2]
       repeat' first|apply W.seq|apply ab|apply W.region|apply WO.nil|apply W.block|apply W.ret|apply ba|apply cN|(apply W.ax;rfl)|(apply W.aw;rfl)|(apply WO.gT;rfl)|(apply WO.lss;rfl;rfl)|(apply WO.gtr;rfl;rfl)|(apply WO.bn;rfl;rfl)|(apply WO.fu;rfl;(first|(focus((repeat' first|exact cn|assumption|apply cG);done))|exact cI (by simp));rfl)|(apply WO.aX;rfl;rfl;rfl)|(apply WO.pl;rfl;rfl)|(apply WO.pp;rfl;rfl)|(intro _;omega)|intro _
       all_goals try omega
       all_goals exact cw rfl rfl (.same rfl rfl)
     . rw[if_neg h2]
       repeat' first|apply W.seq|apply ab|apply W.region|apply WO.nil|apply W.block|apply W.ret|apply W.skip|apply ba|apply bK|(apply W.ax;rfl)|(apply W.aw;rfl)|(apply WO.gT;rfl)|(apply WO.lss;rfl;rfl)|(apply WO.gtr;rfl;rfl)|(apply WO.bn;rfl;rfl)|(apply WO.fu;rfl;(first|(focus((repeat' first|exact cn|assumption|apply cG);done))|exact cI (by simp));rfl)|(apply WO.aX;rfl;rfl;rfl)|(apply WO.pl;rfl;rfl)|(apply WO.pp;rfl;rfl)|(intro _;omega)|intro _
       all_goals try omega
       all_goals exact cw rfl rfl (.same rfl rfl)
  | @eC σ z w hs ok nr hw hz=>
   cases w with
   | nil=>simp[WV]at hw
   | cons u w=>
   repeat' first|apply W.seq|apply ab|apply W.region|apply WO.nil|apply W.ret|apply W.skip|(apply W.aw;rfl)|(apply WO.gT;rfl)|(apply WO.bn;rfl;rfl)|(apply WO.ay;rfl;rfl;first|exact q217 _|exact q211 _)|(apply WO.fu;rfl;(first|(focus((repeat' first|exact cn|assumption|apply cG);done))|exact cI (by simp));rfl)|(apply WO.aX;rfl;rfl;rfl)|(apply WO.pl;rfl;rfl)|(apply WO.pp;rfl;rfl)
   all_goals exact cw rfl rfl (.same rfl rfl)
 | @eC σ z w hs ok nr hw hz=>
  cases w with
  | nil=>simp[WV]at hw
  | cons u w=>
  cases hb
  all_goals
  . repeat' first|apply W.seq|apply ab|apply W.region|apply WO.nil|apply W.ret|apply W.skip|(apply W.aw;rfl)|(apply WO.sT;rfl)|(apply WO.bx;rfl;rfl)|(apply WO.ay;rfl;rfl;first|exact q217 _|exact q211 _)|(apply WO.fu;rfl;(first|(focus((repeat' first|exact cn|assumption|apply cG);done))|exact cI (by simp));rfl)|(apply WO.aX;rfl;rfl;rfl)|(apply WO.pl;rfl;rfl)|(apply WO.pp;rfl;rfl)
    all_goals exact cw rfl rfl (.same rfl rfl)
theorem RT (hft:M.FT=FT)(s:Int):cW M 168 [.iV s] (.agg [.iV s,.ah]):=by
 refine cT (by rw[hft];exact RG) (by simp) ?_
 unfold Hf
 simp only[enter]
 repeat' first|apply W.seq|apply ab|apply W.region|apply WO.nil|apply W.ret|(apply WO.fI;rfl;rfl;exact⟨rfl,by first|exact Nat.le_refl _|decide|(simp[overwrite]),rfl⟩;rfl)|(apply WO.aX;rfl;rfl;rfl)|(apply WO.pl;rfl;rfl)
 exact cw rfl rfl (.same rfl rfl)
end Go.Ab.Ch1

/-
  Own work: integers of any size: products.
-/
namespace Go.Ab.Ch1
open Go.Ab.bz
variable {M:aO} {cap:Option Nat} {N:Nat}
def t198:ak:=
 .seq (.region [zt 50 2 2,
      z1 51 246 50,
      zn 49 51,
      ze 52 0 49,
      ze 53 1 49,
      zw 7 52,
      zw 8 53])
    (
     .seq (.region [zt 55 2 3,
       z1 56 246 55,
       zn 54 56,
       ze 57 0 54,
       ze 58 1 54,
       zw 9 57,
       zw 10 58])
     (
      .seq (.region [zm 59 7,
        zm 60 9,
        ⟨(.l 61),.eq true .bool (.l 59) (.l 60),none⟩,
        zm 62 8,
        zm 63 10,
        z2 64 248 62 63,
        z2 65 247 61 64,
        zs 2 4 65])
      (.ret)))
theorem iq {x:Int}:0<=an x:=by unfold an;split <;> omega
theorem Hl {x y:Int}(h:x<0↔y<0):an x*an y=x*y:=by
 unfold an
 by_cases h1:x<0
 . rw[if_pos h1,if_pos (h.1 h1),Int.neg_mul_neg]
 . rw[if_neg h1,if_neg (fun h2=>h1 (h.2 h2))]
theorem Hm {x y:Int}(h:¬(x<0↔y<0)) : -(an x*an y)=x*y:=by
 unfold an
 by_cases h1:x<0
 . rw[if_pos h1,if_neg (fun h2=>h ⟨fun _=>h2,fun _=>h1⟩),Int.neg_mul,Int.neg_neg]
 . rw[if_neg h1,if_pos (Decidable.byContradiction fun h2=>h ⟨fun h3=>absurd h3 h1,fun h3=>absurd h3 h2⟩),Int.mul_neg,Int.neg_neg]
theorem RU {l m r:List Int}(C:CI M N)(ok:okW wB r)(nr:aR r)(okl:okW wB l)(okm:okW wB m)(hr:WV wB r=WV wB l*WV wB m)(hl:WV wB l<wB^N)(hm:WV wB m<wB^N):r.length<=1000001:=by
 have hN:=C.lN
 have hp:wB^(N+N)=wB^N*wB^N:=Int.pow_add _ _ _
 have l0:=cO (b:=wB) (by decide) okl
 have m0:=cO (b:=wB) (by decide) okm
 have hp0:0<wB^N:=Int.pow_pos (by decide)
 have h1:WV wB l*WV wB m<wB^N*wB^N:=by
  have a1:=Int.mul_le_mul_of_nonneg_left (Int.le_of_lt hm) l0
  have a2:=Int.mul_lt_mul_of_pos_right hl hp0
  omega
 exact Nat.le_trans (im (b:=wB) (by decide) ok nr (n:=N+N) (by rw[hr,hp];exact h1)) (by omega)
theorem RV (C:CI M N){s s' za zb:Int}{wa wb:AV}(ha:aL (.agg [.iV s,wa]) za)(hb:aL (.agg [.iV s',wb]) zb)(lza:an za<wB^N)(lzb:an zb<wB^N) :
 ∃v0,aL v0 (za*zb)/\∀a0 a1 a5 a6 a7 a8 a9 aA lo wr,W M t198 ⟨⟨[a0,a1,.ptr 0 0,.ptr 1 0,.ptr 2 0,a5,a6,a7,a8,a9,aA],lo,[some (.cells [.iV s,wa] 131),some (.cells [.iV s',wb] 131),some (.cells [.iV 0,.ah] 131)],[]⟩,wr⟩ (kG v0 [.cell 2 true (.p 4)]):=by
 obtain⟨x,l,hx,okl,nrl,vl,q246a⟩:=C.jT _ za ha
 obtain⟨y,m,hy,okm,nrm',vm,q246b⟩:=C.jT _ zb hb
 have ll:=C.len okl nrl vl lza
 have lm:=C.len okm nrm' vm lzb
 obtain⟨r,okr,nrr,vr,q248⟩:=C.Hj x l y m hx hy okl okm ll lm
 have lr:=RU C okr nrr okl okm vr (by rw[vl];exact lza) (by rw[vm];exact lzb)
 rw[vl,vm]at vr
 by_cases hs:za<0↔zb<0
 . obtain⟨v0,h0,q247⟩:=C.jy false (.vs (aj r) r.length none) r (.inl rfl) okr nrr lr
   have h0:aL v0 (za*zb):=by rw[←Hl hs,←vr];exact h0
   refine⟨v0,h0,fun a0 a1 a5 a6 a7 a8 a9 aA lo wr=>?_⟩
   have out:=fun hh=>h0.out (hh:=hh)
   unfold t198
   by_cases h:za<0 <;> by_cases h':zb<0 <;> simp only[h,h',decide_true,decide_false]at hs q246a q246b
   all_goals first|(exfalso;revert hs;decide)|skip
   all_goals
   . cases h0
     all_goals
     . repeat' first|apply W.seq|apply ab|apply W.region|apply WO.nil|apply W.ret|(apply WO.ay;rfl;rfl;first|exact q246a _|exact q246b _|exact q248 _|exact q247 _)|(apply WO.aT;rfl;rfl;rfl)|(apply WO.fA;rfl;rfl;rfl)|(apply WO.pl;rfl;rfl)|(apply WO.pp;rfl;rfl)
       all_goals exact cw rfl rfl (out _)
 . obtain⟨v0,h0,q247⟩:=C.jy true (.vs (aj r) r.length none) r (.inl rfl) okr nrr lr
   have h0:aL v0 (za*zb):=by rw[←Hm hs,←vr];exact h0
   refine⟨v0,h0,fun a0 a1 a5 a6 a7 a8 a9 aA lo wr=>?_⟩
   have out:=fun hh=>h0.out (hh:=hh)
   unfold t198
   by_cases h:za<0 <;> by_cases h':zb<0 <;> simp only[h,h',decide_true,decide_false]at hs q246a q246b
   all_goals first|(exfalso;revert hs;decide)|skip
   all_goals
   . cases h0
     all_goals
     . repeat' first|apply W.seq|apply ab|apply W.region|apply WO.nil|apply W.ret|(apply WO.ay;rfl;rfl;first|exact q246a _|exact q246b _|exact q248 _|exact q247 _)|(apply WO.aT;rfl;rfl;rfl)|(apply WO.fA;rfl;rfl;rfl)|(apply WO.pl;rfl;rfl)|(apply WO.pp;rfl;rfl)
       all_goals exact cw rfl rfl (out _)
theorem RW (C:CI M N){a b:AV}{za zb:Int}(ha:aL a za)(hb:aL b zb)(lza:an za<wB^N)(lzb:an zb<wB^N):∃v0,aL v0 (za*zb)/\cW M 198 [a,b] v0:=by
 have main:∀{s s':Int} {wa wb:AV},a = .agg [.iV s,wa]->b = .agg [.iV s',wb]->∃v0,aL v0 (za*zb)/\∀a0 a1 a5 a6 a7 a8 a9 aA lo wr,W M t198 ⟨⟨[a0,a1,.ptr 0 0,.ptr 1 0,.ptr 2 0,a5,a6,a7,a8,a9,aA],lo,[some (.cells [.iV s,wa] 131),some (.cells [.iV s',wb] 131),some (.cells [.iV 0,.ah] 131)],[]⟩,wr⟩ (kG v0 [.cell 2 true (.p 4)]):=
  fun e1 e2=>RV C (e1 ▸ ha) (e2 ▸ hb) lza lzb
 cases ha with
 | small h=>
  cases hb with
  | small h'=>
   have q245a:=fun k=>C.rN za k h
   have q245b:=fun k=>C.rN zb k h'
   have ga:0<=an za/\an za<18446744073709551616:=by unfold an;split <;> omega
   have gb:0<=an zb/\an zb<18446744073709551616:=by unfold an;split <;> omega
   have q244:=fun k=>C.nq (an za) (an zb) k ga gb
   have hm:=uS ga gb
   have ms:=@Hl za zb
   have md:=@Hm za zb
   obtain⟨m,hmm⟩:∃m,m=an za*an zb:=⟨_,rfl⟩
   rw[←hmm]at q244 hm ms md
   by_cases hbig:m<=9223372036854775807
   . by_cases hs:za<0↔zb<0
     . refine⟨.agg [.iV m,.ah],by rw[←ms hs];exact .small (by omega),?_⟩
       refine cT (by rw[C.ft];exact rP) (by simp) ?_
       have e:m%18446744073709551616=m:=by omega
       have e2:m/18446744073709551616=0:=by omega
       rw[e,e2]at q244
       unfold pJ
       simp only[enter]
       by_cases h1:za<0 <;> by_cases h2:zb<0
       all_goals try omega
       all_goals
       . repeat' first|(apply WD.dL;rfl;rfl;(first|(simp only[nca];rfl)|rfl);first|exact q245a _|exact q245b _|exact q244 _)|apply W.seq|apply ab|apply W.region|apply WO.nil|apply W.ret|apply W.skip|apply ba|apply W.draw|apply WD.nil|(apply WD.dE;rfl)|(apply WD.dc;rfl;rfl;(first|(simp only[nca];rfl)|rfl))|(apply W.ax;rfl)|(apply W.aw;rfl)|(apply WO.gT;rfl)|(apply WO.lss;rfl;rfl)|(apply WO.leq;rfl;rfl)|(apply WO.eql;rfl;rfl)|(apply WO.ku;rfl;omega)|(apply WO.bn;rfl;rfl)|(apply WO.fI;rfl;rfl;exact⟨rfl,by first|exact Nat.le_refl _|decide|(simp[overwrite]),rfl⟩;rfl)|(apply WO.fu;rfl;(first|(focus((repeat' first|exact cn|assumption|apply cG);done))|exact cI (by simp));rfl)|(apply WO.aX;rfl;rfl;rfl)|(apply WO.pl;rfl;rfl)|(apply WO.pp;rfl;rfl)|(intro _;omega)|intro _
         all_goals try omega
         all_goals exact cw rfl rfl (.same rfl rfl)
     . refine⟨.agg [.iV (-m),.ah],by rw[←md hs];exact .small (by omega),?_⟩
       refine cT (by rw[C.ft];exact rP) (by simp) ?_
       have e:m%18446744073709551616=m:=by omega
       have e2:m/18446744073709551616=0:=by omega
       rw[e,e2]at q244
       unfold pJ
       simp only[enter]
       by_cases h1:za<0 <;> by_cases h2:zb<0
       all_goals try omega
       all_goals
       . repeat' first|(apply WD.dL;rfl;rfl;(first|(simp only[nca];rfl)|rfl);first|exact q245a _|exact q245b _|exact q244 _)|apply W.seq|apply ab|apply W.region|apply WO.nil|apply W.ret|apply ba|apply W.draw|apply WD.nil|(apply WD.dE;rfl)|(apply WD.dc;rfl;rfl;(first|(simp only[nca];rfl)|rfl))|(apply W.ax;rfl)|(apply WO.gT;rfl)|(apply WO.lss;rfl;rfl)|(apply WO.leq;rfl;rfl)|(apply WO.eql;rfl;rfl)|(apply WO.ku;rfl;omega)|(apply WO.bn;rfl;rfl)|(apply WO.fI;rfl;rfl;exact⟨rfl,by first|exact Nat.le_refl _|decide|(simp[overwrite]),rfl⟩;rfl)|(apply WO.fu;rfl;(first|(focus((repeat' first|exact cn|assumption|apply cG);done))|exact cI (by simp));rfl)|(apply WO.neg;rfl;omega)|(apply WO.aX;rfl;rfl;rfl)|(apply WO.pl;rfl;rfl)|(apply WO.pp;rfl;rfl)|(intro _;omega)|intro _
         all_goals try omega
         all_goals exact cw rfl rfl (.same rfl rfl)
   . obtain⟨v0,h0,tl⟩:=main rfl rfl
     refine⟨v0,h0,cT (by rw[C.ft];exact rP) (by simp) ?_⟩
     unfold pJ
     simp only[enter]
     repeat' first|(exact tl _ _ _ _ _ _ _ _ _ _)|(apply WD.dL;rfl;rfl;(first|(simp only[nca];rfl)|rfl);first|exact q245a _|exact q245b _|exact q244 _)|apply W.seq|apply ab|apply W.region|apply WO.nil|apply W.skip|apply W.draw|apply WD.nil|(apply WD.dE;rfl)|(apply WD.dc;rfl;rfl;(first|(simp only[nca];rfl)|rfl))|(apply W.ax;rfl)|(apply W.aw;rfl)|(apply WO.gT;rfl)|(apply WO.sT;rfl)|(apply WO.leq;rfl;rfl)|(apply WO.eql;rfl;rfl)|(apply WO.bn;rfl;rfl)|(apply WO.bx;rfl;rfl)|(apply WO.fu;rfl;(first|(focus((repeat' first|exact cn|assumption|apply cG);done))|exact cI (by simp));rfl)|(apply WO.aX;rfl;rfl;rfl)|(apply WO.pl;rfl;rfl)|(apply WO.pp;rfl;rfl)|(intro _;omega)|intro _
     all_goals try omega
  | @eC σ z w hs ok nr hw hz=>
   cases w with
   | nil=>simp[WV]at hw
   | cons y w=>
   obtain⟨v0,h0,tl⟩:=main rfl rfl
   refine⟨v0,h0,cT (by rw[C.ft];exact rP) (by simp) ?_⟩
   unfold pJ
   simp only[enter]
   repeat' first|(exact tl _ _ _ _ _ _ _ _ _ _)|apply W.seq|apply ab|apply W.region|apply WO.nil|apply W.skip|(apply W.aw;rfl)|(apply WO.gT;rfl)|(apply WO.bn;rfl;rfl)|(apply WO.fu;rfl;(first|(focus((repeat' first|exact cn|assumption|apply cG);done))|exact cI (by simp));rfl)|(apply WO.aX;rfl;rfl;rfl)|(apply WO.pl;rfl;rfl)
 | @eC σ z w hs ok nr hw hz=>
  cases w with
  | nil=>simp[WV]at hw
  | cons y w=>
  cases hb
  all_goals
  . obtain⟨v0,h0,tl⟩:=main rfl rfl
    refine⟨v0,h0,cT (by rw[C.ft];exact rP) (by simp) ?_⟩
    unfold pJ
    simp only[enter]
    repeat' first|(exact tl _ _ _ _ _ _ _ _ _ _)|apply W.seq|apply ab|apply W.region|apply WO.nil|apply W.skip|(apply W.aw;rfl)|(apply WO.sT;rfl)|(apply WO.bx;rfl;rfl)|(apply WO.fu;rfl;(first|(focus((repeat' first|exact cn|assumption|apply cG);done))|exact cI (by simp));rfl)|(apply WO.aX;rfl;rfl;rfl)|(apply WO.pl;rfl;rfl)
end Go.Ab.Ch1

/-
  Own work: integers of any size: quotients and rests.
-/
namespace Go.Ab.Ch1
open Go.Ab.bz
variable {M:aO} {cap:Option Nat} {N:Nat}
structure CD (M:aO)(N:Nat):Prop extends CJ M N where
 n1:1<=N
 ny:∀s h,M.ext 168 [.iV s] h=some ⟨.agg [.iV s,.ah],h,[]⟩
 Hn:∀x l y m,cV x l->cV y m->okW wB l->okW wB m->aR l->aR m->l.length<=500000->m.length<=500000->m≠[]->∃qv q rv r,cV qv q/\cV rv r/\okW wB q/\aR q/\okW wB r/\aR r/\WV wB q=WV wB l/WV wB m/\WV wB r=WV wB l%WV wB m/\∀h,M.ext 253 [x,y] h=some ⟨.ao [qv,rv],h,[]⟩
def t205:ak:=
 .seq (.region [zt 52 2 2,
      z1 53 246 52,
      zn 51 53,
      ze 54 0 51,
      ze 55 1 51,
      zw 8 54,
      zw 9 55])
    (
     .seq (.region [zt 57 2 3,
       z1 58 246 57,
       zn 56 58,
       ze 59 0 56,
       ze 60 1 56,
       zn 10 59,
       zw 10 60])
     (
      .seq (.region [zm 62 9,
        zm 63 10,
        z2 64 253 62 63,
        zn 61 64,
        ze 65 0 61,
        ze 66 1 61,
        zw 11 65,
        zw 12 66])
      (
       .seq (.region [zm 67 8,
         zm 68 11,
         z2 69 247 67 68,
         zm 70 8,
         zm 71 12,
         z2 72 247 70 71,
         ⟨(.p 13),.alloc 131 [.iV (0),.ah],none⟩,
         ⟨(.p 14),.alloc 131 [.iV (0),.ah],none⟩,
         zs 2 13 69,
         zs 2 14 72])
       (
        .seq (.seq (.region [zt 73 2 14,
           z1 74 211 73,
           zc 75 .lss 74 0])
         (
          .cond (.l 75)
          (.draw [(zt 76 2 13,[]),
            (⟨(.l 77),.call (kF 168) [(kI 1)],none⟩,[0]),
            (z2 78 217 76 77,[]),
            (zt 79 2 14,[0,1,2]),
            (zt 80 2 3,[0,1,2,3]),
            (z2 81 202 79 80,[]),
            (zs 2 13 78,[]),
            (zs 2 14 81,[])])
          (.skip)))
        (
         .seq (.draw [(zt 82 2 13,[]),
           (zt 83 2 14,[0]),
           (zs 2 4 82,[1]),
           (zs 2 5 83,[])])
         (.ret))))))
theorem RX {x y:Int}(hy:0<y):(x.tmod y<0->x/y=x.tdiv y-1/\x%y=x.tmod y+y)/\(0<=x.tmod y->x/y=x.tdiv y/\x%y=x.tmod y)/\(-y<x.tmod y/\x.tmod y<y):=by
 have e:=Int.mul_tdiv_add_tmod x y
 have hb : -y<x.tmod y/\x.tmod y<y:=by
  rcases Int.le_total 0 x with h|h
  . rw[Int.tmod_eq_emod_of_nonneg h]
    have:=Int.emod_nonneg x (show y≠0 by omega)
    have:=Int.emod_lt_of_pos x hy
    omega
  . have e:x.tmod y = -(-x%y):=by
     rw[←Int.tmod_eq_emod_of_nonneg (show 0 <= -x by omega),Int.neg_tmod];omega
    have:=Int.emod_nonneg (-x) (show y≠0 by omega)
    have:=Int.emod_lt_of_pos (-x) hy
    omega
 refine⟨fun h=>?_,fun h=>?_,hb⟩
 . obtain⟨h1,h2⟩:=lW (x:=x) (y:=y) (q:=x.tdiv y-1) (r:=x.tmod y+y) (by rw[Int.mul_sub,Int.mul_one];omega) (by omega) (by omega)
   exact⟨h1.symm,h2.symm⟩
 . obtain⟨h1,h2⟩:=lW (x:=x) (y:=y) (q:=x.tdiv y) (r:=x.tmod y) (by omega) h hb.2
   exact⟨h1.symm,h2.symm⟩
theorem RY {x y q r:Int}(hy:0<y)(hx:x<0)(hq:q = -x/y)(hr:r = -x%y):(r=0->x/y = -q/\x%y=0)/\(r≠0->x/y = -q-1/\x%y=y-r)/\(0<=r/\r<y)/\0<=q/\q <= -x:=by
 have e:=Int.mul_ediv_add_emod (-x) y
 have r0:=Int.emod_nonneg (-x) (show y≠0 by omega)
 have r1:=Int.emod_lt_of_pos (-x) hy
 have q0:0 <= -x/y:=Int.ediv_nonneg (by omega) (by omega)
 have q1 : -x/y <= -x:=Int.ediv_le_self _ (by omega)
 rw[←hq,←hr]at e
 rw[←hr]at r0 r1
 rw[←hq]at q0 q1
 refine⟨fun h=>?_,fun h=>?_,⟨r0,r1⟩,q0,q1⟩
 . obtain⟨h1,h2⟩:=lW (x:=x) (y:=y) (q:=-q) (r:=0) (by rw[Int.mul_neg];omega) (by omega) hy
   exact⟨h1.symm,h2.symm⟩
 . obtain⟨h1,h2⟩:=lW (x:=x) (y:=y) (q:=-q-1) (r:=y-r) (by rw[Int.mul_sub,Int.mul_neg,Int.mul_one];omega) (by omega) (by omega)
   exact⟨h1.symm,h2.symm⟩
theorem AO {a b:AV}{x y:Int}{hh:ae}(ha:aL a x)(hb:aL b y):fU (bg [a,b]) hh (.ao [a,b]):=by
 cases ha
 all_goals
 . cases hb
   all_goals exact .same (by simp[bg,AV.top,br,fN]) (by simp[bg,bM,cB,kE])
theorem cQ {x:Int}(h:0<=x):an x=x:=if_neg (by omega)
theorem RZ (C:CD M N):(1:Int)<wB^N:=by
 have h:=gZ (b:=wB) (by decide) (m:=1) (n:=N) C.n1
 have h3:wB^1=18446744073709551616:=rfl
 omega
theorem Sa (C:CD M N){s s' za zb:Int}{wa wb:AV}(ha:aL (.agg [.iV s,wa]) za)(hb:aL (.agg [.iV s',wb]) zb)(lza:an za<wB^N)(lzb:an zb<wB^N)(hpos:0<zb) :
 ∃q r,aL q (za/zb)/\aL r (za%zb)/\∀a0 a1 a6 a7 a8 a9 aA aB aC aD aE lo wr,W M t205 ⟨⟨[a0,a1,.ptr 0 0,.ptr 1 0,.ptr 2 0,.ptr 3 0,a6,a7,a8,a9,aA,aB,aC,aD,aE],lo,[some (.cells [.iV s,wa] 131),some (.cells [.iV s',wb] 131),some (.cells [.iV 0,.ah] 131),some (.cells [.iV 0,.ah] 131)],[]⟩,wr⟩ (kG (.ao [q,r]) [.cell 2 true (.p 4),.cell 2 true (.p 5)]):=by
 obtain⟨x,l,hx,okl,nrl,vl,q246a⟩:=C.jT _ za ha
 obtain⟨y,m,hy,okm,nrm',vm,q246b⟩:=C.jT _ zb hb
 have ll:=C.len okl nrl vl lza
 have lm:=C.len okm nrm' vm lzb
 have hb0:¬zb<0:=by omega
 rw[cQ (by omega)]at vm lzb
 have mne:m≠[]:=fun e=>by rw[e]at vm;simp[WV]at vm;omega
 obtain⟨qv,q,rv,r,hq,hr,okq,nrq,okr,nrr,vq,vr,q253⟩:=C.Hn x l y m hx hy okl okm nrl nrm' ll lm mne
 rw[vl,vm]at vq vr
 have q0:=cO (b:=wB) (by decide) okq
 have r0:=cO (b:=wB) (by decide) okr
 have a0:=iq (x:=za)
 have q1:WV wB q<=an za:=by rw[vq];exact Int.ediv_le_self _ a0
 have r1:WV wB r<zb:=by rw[vr];exact Int.emod_lt_of_pos _ hpos
 have lN:=C.lN
 have lq:q.length<=1000001:=Nat.le_trans (im (b:=wB) (by decide) okq nrq (n:=N) (by omega)) (by omega)
 have lr:r.length<=1000001:=Nat.le_trans (im (b:=wB) (by decide) okr nrr (n:=N) (by omega)) (by omega)
 simp only[hb0,decide_false]at q246b
 by_cases hn:za<0
 . simp only[hn,decide_true]at q246a
   rw[show an za = -za from if_pos hn]at vq vr q1 lza
   obtain⟨d1,d2,d3,d4,d5⟩:=RY hpos hn vq vr
   obtain⟨vQ,hQ,q247q⟩:=C.jy true qv q hq okq nrq lq
   obtain⟨vR,hR,q247r⟩:=C.jy true rv r hr okr nrr lr
   have hQ:aL vQ (-WV wB q):=hQ
   have hR:aL vR (-WV wB r):=hR
   have q211:=C.nw vR _ hR
   by_cases hz:WV wB r=0
   . obtain⟨e1,e2⟩:=d1 hz
     rw[show bD (-WV wB r)=0 by rw[hz];rfl]at q211
     refine⟨vQ,vR,by rw[e1];exact hQ,by rw[e2];rw[hz]at hR;exact hR,fun a0 a1 a6 a7 a8 a9 aA aB aC aD aE lo wr=>?_⟩
     have out:=fun hh=>AO (hh:=hh) hQ hR
     unfold t205
     cases hQ
     all_goals
     . cases hR
       all_goals
       . repeat' first|apply W.seq|apply ab|apply W.region|apply WO.nil|apply W.ret|apply W.skip|apply W.draw|apply WD.nil|(apply WD.dc;rfl;rfl;(first|(simp only[nca];rfl)|rfl))|(apply WD.eh;rfl;(first|(simp only[nca];rfl)|rfl);(first|(simp only[nca];rfl)|rfl))|(apply W.aw;rfl)|(apply WO.lss;rfl;rfl)|(apply WO.ay;rfl;rfl;first|exact q246a _|exact q246b _|exact q253 _|exact q247q _|exact q247r _|exact q211 _)|(apply WO.aT;rfl;rfl;rfl)|(apply WO.aX;rfl;rfl;rfl)|(apply WO.fA;rfl;rfl;rfl)|(apply WO.pl;rfl;rfl)|(apply WO.pp;rfl;rfl)|(intro _;omega)|intro _
         all_goals try omega
         all_goals exact cw rfl rfl (out _)
   . obtain⟨e1,e2⟩:=d2 hz
     rw[show bD (-WV wB r) = -1 from if_pos (by omega)]at q211
     have q168:=C.ny 1
     have h1:=RZ C
     obtain⟨vS,hS,q217⟩:=C.AN vQ _ _ 1 hQ (.small (by decide)) (by rw[jU,cQ q0];omega) h1
     obtain⟨vT,hT,q202⟩:=C.pL vR _ _ zb hR hb (by rw[jU,cQ r0];omega) (by rw[cQ (by omega)];exact lzb)
     have hS:aL vS (za/zb):=by rw[e1];exact hS
     have hT:aL vT (za%zb):=by rw[e2,show zb-WV wB r = -WV wB r+zb by omega];exact hT
     refine⟨vS,vT,hS,hT,fun a0 a1 a6 a7 a8 a9 aA aB aC aD aE lo wr=>?_⟩
     have out:=fun hh=>AO (hh:=hh) hS hT
     unfold t205
     cases hQ
     all_goals
     . cases hR
       all_goals
       . cases hS
         all_goals
         . cases hT
           all_goals
           . repeat' first|(apply WD.dL;rfl;rfl;(first|(simp only[nca];rfl)|rfl);first|exact q168 _|exact q217 _|exact q202 _)|apply W.seq|apply ab|apply W.region|apply WO.nil|apply W.ret|apply W.draw|apply WD.nil|(apply WD.dc;rfl;rfl;(first|(simp only[nca];rfl)|rfl))|(apply WD.eh;rfl;(first|(simp only[nca];rfl)|rfl);(first|(simp only[nca];rfl)|rfl))|(apply W.ax;rfl)|(apply WO.lss;rfl;rfl)|(apply WO.ay;rfl;rfl;first|exact q246a _|exact q246b _|exact q253 _|exact q247q _|exact q247r _|exact q211 _)|(apply WO.aT;rfl;rfl;rfl)|(apply WO.aX;rfl;rfl;rfl)|(apply WO.fA;rfl;rfl;rfl)|(apply WO.pl;rfl;rfl)|(apply WO.pp;rfl;rfl)|(intro _;omega)|intro _
             all_goals try omega
             all_goals exact cw rfl rfl (out _)
 . simp only[hn,decide_false]at q246a
   rw[show an za=za from if_neg hn]at vq vr
   obtain⟨vQ,hQ,q247q⟩:=C.jy false qv q hq okq nrq lq
   obtain⟨vR,hR,q247r⟩:=C.jy false rv r hr okr nrr lr
   have hQ:aL vQ (za/zb):=by rw[←vq];exact hQ
   have q211:=C.nw vR _ hR
   have hR:aL vR (za%zb):=by rw[←vr];exact hR
   obtain⟨g,hg⟩:∃g,g=bD (fF false (WV wB r)):=⟨_,rfl⟩
   have g0:0<=g:=by rw[hg];unfold bD fF;simp;split <;> omega
   rw[←hg]at q211
   refine⟨vQ,vR,hQ,hR,fun a0 a1 a6 a7 a8 a9 aA aB aC aD aE lo wr=>?_⟩
   have out:=fun hh=>AO (hh:=hh) hQ hR
   unfold t205
   cases hQ
   all_goals
   . cases hR
     all_goals
     . repeat' first|apply W.seq|apply ab|apply W.region|apply WO.nil|apply W.ret|apply W.skip|apply W.draw|apply WD.nil|(apply WD.dc;rfl;rfl;(first|(simp only[nca];rfl)|rfl))|(apply WD.eh;rfl;(first|(simp only[nca];rfl)|rfl);(first|(simp only[nca];rfl)|rfl))|(apply W.aw;rfl)|(apply WO.lss;rfl;rfl)|(apply WO.ay;rfl;rfl;first|exact q246a _|exact q246b _|exact q253 _|exact q247q _|exact q247r _|exact q211 _)|(apply WO.aT;rfl;rfl;rfl)|(apply WO.aX;rfl;rfl;rfl)|(apply WO.fA;rfl;rfl;rfl)|(apply WO.pl;rfl;rfl)|(apply WO.pp;rfl;rfl)|(intro _;omega)|intro _
       all_goals try omega
       all_goals exact cw rfl rfl (out _)
end Go.Ab.Ch1

/-
  Own work: integers of any size: quotients and rests, the whole.
-/
namespace Go.Ab.Ch1
open Go.Ab.bz
variable {M:aO} {cap:Option Nat} {N:Nat}
theorem Sb (C:CD M N){a b:AV}{za zb:Int}(ha:aL a za)(hb:aL b zb)(lza:an za<wB^N)(lzb:an zb<wB^N)(hpos:0<zb):∃q r,aL q (za/zb)/\aL r (za%zb)/\cW M 205 [a,b] (.ao [q,r]):=by
 have main:∀{s s':Int} {wa wb:AV},a = .agg [.iV s,wa]->b = .agg [.iV s',wb]->∃q r,aL q (za/zb)/\aL r (za%zb)/\∀a0 a1 a6 a7 a8 a9 aA aB aC aD aE lo wr,W M t205 ⟨⟨[a0,a1,.ptr 0 0,.ptr 1 0,.ptr 2 0,.ptr 3 0,a6,a7,a8,a9,aA,aB,aC,aD,aE],lo,[some (.cells [.iV s,wa] 131),some (.cells [.iV s',wb] 131),some (.cells [.iV 0,.ah] 131),some (.cells [.iV 0,.ah] 131)],[]⟩,wr⟩ (kG (.ao [q,r]) [.cell 2 true (.p 4),.cell 2 true (.p 5)]):=
  fun e1 e2=>Sa C (e1 ▸ ha) (e2 ▸ hb) lza lzb hpos
 cases ha with
 | small h=>
  cases hb with
  | small h'=>
   by_cases hmin:za = -9223372036854775808
   . obtain⟨q,r,hq,hr,tl⟩:=main rfl rfl
     refine⟨q,r,hq,hr,cT (by rw[C.ft];exact rQ) (by simp) ?_⟩
     unfold pK
     simp only[enter]
     repeat' first|(exact tl _ _ _ _ _ _ _ _ _ _ _ _ _)|apply W.seq|apply ab|apply W.region|apply WO.nil|apply W.skip|(apply W.aw;rfl)|(apply WO.gT;rfl)|(apply WO.neq;rfl;rfl)|(apply WO.bn;rfl;rfl)|(apply WO.aT;rfl;rfl;rfl)|(apply WO.aX;rfl;rfl;rfl)|(apply WO.pl;rfl;rfl)|(intro _;omega)|intro _
     all_goals try omega
   . obtain⟨d1,d2,d3⟩:=RX (x:=za) hpos
     have hq : -9223372036854775807<=za.tdiv zb/\za.tdiv zb<=9223372036854775807:=by
      have h1:(za.tdiv zb).natAbs<=za.natAbs:=by rw[Int.natAbs_tdiv];exact Nat.div_le_self _ _
      omega
     by_cases hr:za.tmod zb<0
     . obtain⟨e1,e2⟩:=d1 hr
       refine⟨_,_,by rw[e1];exact .small (by omega),by rw[e2];exact .small (by omega),cT (by rw[C.ft];exact rQ) (by simp) ?_⟩
       unfold pK
       simp only[enter]
       repeat' first|apply W.seq|apply ab|apply W.region|apply WO.nil|apply W.ret|apply ba|(apply W.fH;rfl)|(apply W.ax;rfl)|(apply WO.gT;rfl)|(apply WO.lss;rfl;rfl)|(apply WO.neq;rfl;rfl)|(apply WO.bn;rfl;rfl)|(apply WO.add;rfl;rfl;omega)|(apply WO.sub;rfl;rfl;omega)|(apply WO.rem;rfl;rfl;omega)|(apply WO.quo;rfl;rfl;omega;omega)|(apply WO.aT;rfl;rfl;rfl)|(apply WO.aX;rfl;rfl;rfl)|(apply WO.fA;rfl;rfl;rfl)|(apply WO.pl;rfl;rfl)|(apply WO.pp;rfl;rfl)|(intro _;omega)|intro _
       all_goals try omega
       all_goals exact cw rfl rfl (.same rfl rfl)
     . obtain⟨e1,e2⟩:=d2 (by omega)
       refine⟨_,_,by rw[e1];exact .small (by omega),by rw[e2];exact .small (by omega),cT (by rw[C.ft];exact rQ) (by simp) ?_⟩
       unfold pK
       simp only[enter]
       repeat' first|apply W.seq|apply ab|apply W.region|apply WO.nil|apply W.ret|apply W.skip|apply ba|(apply W.fH;rfl)|(apply W.ax;rfl)|(apply W.aw;rfl)|(apply WO.gT;rfl)|(apply WO.lss;rfl;rfl)|(apply WO.neq;rfl;rfl)|(apply WO.bn;rfl;rfl)|(apply WO.rem;rfl;rfl;omega)|(apply WO.quo;rfl;rfl;omega;omega)|(apply WO.aT;rfl;rfl;rfl)|(apply WO.aX;rfl;rfl;rfl)|(apply WO.fA;rfl;rfl;rfl)|(apply WO.pl;rfl;rfl)|(apply WO.pp;rfl;rfl)|(intro _;omega)|intro _
       all_goals try omega
       all_goals exact cw rfl rfl (.same rfl rfl)
  | @eC σ z w hs ok nr hw hz=>
   cases w with
   | nil=>simp[WV]at hw
   | cons y w=>
   obtain⟨q,r,hq,hr,tl⟩:=main rfl rfl
   refine⟨q,r,hq,hr,cT (by rw[C.ft];exact rQ) (by simp) ?_⟩
   unfold pK
   simp only[enter]
   repeat' first|(exact tl _ _ _ _ _ _ _ _ _ _ _ _ _)|apply W.seq|apply ab|apply W.region|apply WO.nil|apply W.skip|(apply W.aw;rfl)|(apply WO.gT;rfl)|(apply WO.sT;rfl)|(apply WO.bn;rfl;rfl)|(apply WO.bx;rfl;rfl)|(apply WO.aT;rfl;rfl;rfl)|(apply WO.aX;rfl;rfl;rfl)|(apply WO.pl;rfl;rfl)
 | @eC σ z w hs ok nr hw hz=>
  cases w with
  | nil=>simp[WV]at hw
  | cons y w=>
  cases hb
  all_goals
  . obtain⟨q,r,hq,hr,tl⟩:=main rfl rfl
    refine⟨q,r,hq,hr,cT (by rw[C.ft];exact rQ) (by simp) ?_⟩
    unfold pK
    simp only[enter]
    repeat' first|(exact tl _ _ _ _ _ _ _ _ _ _ _ _ _)|apply W.seq|apply ab|apply W.region|apply WO.nil|apply W.skip|(apply W.aw;rfl)|(apply WO.sT;rfl)|(apply WO.bx;rfl;rfl)|(apply WO.aT;rfl;rfl;rfl)|(apply WO.aX;rfl;rfl;rfl)|(apply WO.pl;rfl;rfl)
end Go.Ab.Ch1

/-
  Own work: integers of any size: quotients of numbers that divide.
-/
namespace Go.Ab.Ch1
open Go.Ab.bz
variable {M:aO} {cap:Option Nat} {N:Nat}
structure CQ (M:aO)(N:Nat):Prop extends CD M N where
 rR:∀a b x y,aL a x->aL b y->an x<wB^N->an y<wB^N->0<y->∃q r,aL q (x/y)/\aL r (x%y)/\∀h,M.ext 205 [a,b] h=some ⟨.ao [q,r],h,[]⟩
theorem dx {k:IntKind}{n:Int}:cR (.int k n)=true:=rfl
theorem eE:cR .ah=true:=rfl
theorem aL.shape {v:AV}{z:Int}(h:aL v z):∃s w,v = .agg [.iV s,w]/\cR w=true/\w.top=0/\bM w=w:=by
 cases h with
 | small=>exact⟨_,_,rfl,rfl,rfl,rfl⟩
 | @eC σ z w=>exact⟨_,_,rfl,rfl,fN _,by rw[bM,kE]⟩
theorem aL.one {s:Int}{w:AV}{z:Int}(h:aL (.agg [.iV s,w]) z):cR w=true/\w.top=0/\bM w=w:=by
 obtain⟨s',w',e,h⟩:=h.shape
 cases e
 exact h
theorem Sc (C:CQ M N){a b:AV}{x y k:Int}(ha:aL a x)(hb:aL b y)(lx:an x<wB^N)(ly:an y<wB^N)(hy:y≠0)(hk:x=y*k):∃v0,aL v0 k/\cW M 252 [a,b] v0:=by
 have q211:=C.nw b y hb
 by_cases hn:y<0
 . rw[show bD y = -1 from if_pos hn]at q211
   obtain⟨va,h1,q216a⟩:=C.kH a x ha lx
   obtain⟨vb,h2,q216b⟩:=C.kH b y hb ly
   have h1:aL va (-x):=h1
   have h2:aL vb (-y):=h2
   obtain⟨q,r,hq,hr,q205⟩:=C.rR va vb _ _ h1 h2 (by rw[jU];exact lx) (by rw[jU];exact ly) (by omega)
   have hq:aL q k:=by
    have : -x / -y=k:=by rw[hk,←Int.neg_mul,Int.mul_ediv_cancel_left _ (by omega)]
    rw[←this];exact hq
   refine⟨q,hq,cT (by rw[C.ft];exact Hg) (by simp) ?_⟩
   have out:=fun hh=>hq.out (hh:=hh)
   obtain⟨_,_,rfl,o1,_⟩:=ha.shape
   obtain⟨_,_,rfl,o2,_⟩:=hb.shape
   obtain⟨_,_,rfl,o3,_⟩:=hq.shape
   obtain⟨_,_,rfl,o4,_⟩:=hr.shape
   obtain⟨_,_,rfl,o5,_⟩:=h1.shape
   obtain⟨_,_,rfl,o6,_⟩:=h2.shape
   unfold AK
   simp only[enter]
   repeat' first|(apply WO.ay;rfl;rfl;first|exact q211 _|exact q216a _|exact q216b _|exact q205 _)|(apply WD.dL;rfl;rfl;(first|(simp only[nca];rfl)|rfl);first|exact q211 _|exact q216a _|exact q216b _|exact q205 _)|(apply WO.cJ;rfl;rfl;rfl;exact⟨rfl,Nat.le_refl _,by simp[overwrite,dx,eE,o3,o4,o5,o6]⟩;rfl)|apply W.seq|apply ab|apply W.region|apply WO.nil|apply W.ret|apply W.draw|apply WD.nil|(apply WD.dc;rfl;rfl;(first|(simp only[nca];rfl)|rfl))|(apply WD.eh;rfl;(first|(simp only[nca];rfl)|rfl);(first|(simp only[nca];rfl)|rfl))|(apply W.ax;rfl)|(apply WO.lss;rfl;rfl)|(apply WO.aT;rfl;rfl;rfl)|(apply WO.aX;rfl;rfl;rfl)|(apply WO.pl;rfl;rfl)|(intro _;omega)|intro _
   all_goals try omega
   all_goals exact cw rfl rfl (out _)
 . obtain⟨g,hg⟩:∃g,g=bD y:=⟨_,rfl⟩
   have g0:0<=g:=by rw[hg];unfold bD;split <;> (first|omega|(split <;> omega))
   rw[←hg]at q211
   obtain⟨q,r,hq,hr,q205⟩:=C.rR a b _ _ ha hb lx ly (by omega)
   have hq:aL q k:=by
    have:x/y=k:=by rw[hk,Int.mul_ediv_cancel_left _ (by omega)]
    rw[←this];exact hq
   refine⟨q,hq,cT (by rw[C.ft];exact Hg) (by simp) ?_⟩
   have out:=fun hh=>hq.out (hh:=hh)
   obtain⟨_,_,rfl,o1,_⟩:=ha.shape
   obtain⟨_,_,rfl,o2,_⟩:=hb.shape
   obtain⟨_,_,rfl,o3,_⟩:=hq.shape
   obtain⟨_,_,rfl,o4,_⟩:=hr.shape
   unfold AK
   simp only[enter]
   repeat' first|(apply WO.ay;rfl;rfl;first|exact q211 _|exact q205 _)|(apply WO.cJ;rfl;rfl;rfl;exact⟨rfl,Nat.le_refl _,by simp[overwrite,dx,eE,o3,o4]⟩;rfl)|apply W.seq|apply ab|apply W.region|apply WO.nil|apply W.ret|apply W.skip|(apply W.aw;rfl)|(apply WO.lss;rfl;rfl)|(apply WO.aT;rfl;rfl;rfl)|(apply WO.aX;rfl;rfl;rfl)|(apply WO.pl;rfl;rfl)|(intro _;omega)|intro _
   all_goals try omega
   all_goals exact cw rfl rfl (out _)
end Go.Ab.Ch1

/-
  Own work: the code of fractions, powers and sizes of integers.
-/
namespace Go.Ab.Ch1
set_option maxRecDepth 1000000
def Ho:ak:=.seq (.region [zx 1 131 2 0,zi 2 0]) (.seq (.region [zt 6 2 1,z1 7 246 6,zn 5 7,ze 8 0 5,ze 9 1 5,zn 3 8,zw 3 9]) (.seq (.seq (.region [zm 10 3,zl 11 10,zc 12 .eql 11 0]) (.cond (.l 12) (.seq (.region [zi 2 0]) (.ret)) (.skip))) (.seq (.region [zm 13 3,zl 14 13,zc 15 .sub 14 1,⟨.l 16,.bin .mul (kI 64) (.l 15),none⟩,zm 17 3,zm 18 3,zl 19 18,zc 20 .sub 19 1,za 21 1 17 20,zd 22 1 21,z1 23 240 22,zb 24 .add 16 23,zw 2 24]) (.ret))))
theorem Sd:FT 262=some ⟨25,[0,1,2,4],[.var (.p 2)],Ho⟩:=by kernel_rfl
def pM:ak:=.seq (.seq (.region [zm 7 1,zc 8 .gtr 7 0]) (.cond (.l 8) (.skip) (.exit 0))) (.seq (.block 1 (.seq (.seq (.region [zm 11 1,zc 12 .and 11 1,zc 13 .eql 12 1]) (.cond (.l 13) (.region [zt 14 2 4,zt 15 2 2,z2 16 198 14 15,zs 2 4 16]) (.skip))) (.seq (.region [zm 17 1,zc 18 .gtr 17 1]) (.cond (.l 18) (.region [zt 19 2 2,zt 20 2 2,z2 21 198 19 20,zs 2 2 21]) (.skip))))) (.region [zm 9 1,⟨.l 10,.bin .shr (.l 9) (kU 1),none⟩,zw 1 10]))
def Hp:ak:=.seq (.region [zx 2 131 2 0,⟨.p 3,.alloc 131 [.iV (0),.ah],none⟩]) (.seq (.region [⟨.l 6,.call (kF 168) [(kI 1)],none⟩,⟨.p 4,.alloc 131 [.iV (0),.ah],none⟩,zs 2 4 6]) (.seq (.block 0 (.loop pM)) (.seq (.region [zt 22 2 4,zs 2 3 22]) (.ret))))
theorem Se:FT 215=some ⟨23,[0,1,2,4,5],[.cell 2 true (.p 3)],Hp⟩:=by kernel_rfl
def Hq:ak:=.seq (.region [zx 1 131 2 0,⟨.p 2,.alloc 133 [.iV (0),.ah,.iV (0),.ah],none⟩]) (.seq (.draw [(zt 3 2 1,[]),(⟨.l 4,.call (kF 168) [(kI 1)],none⟩,[0]),(⟨.l 5,.build [.iV (0),.ah,.iV (0),.ah] [(0,2,(.l 3)),(2,2,(.l 4))],none⟩,[]),(zs 4 2 5,[])]) (.ret))
theorem Sf:FT 159=some ⟨6,[0,1,2],[.cell 4 true (.p 2)],Hq⟩:=by kernel_rfl
def AP:ak:=.seq (.region [zx 2 131 2 0,zx 3 131 2 1,⟨.p 4,.alloc 133 [.iV (0),.ah,.iV (0),.ah],none⟩]) (.seq (.seq (.region [zt 6 2 3,z1 7 211 6,zc 8 .lss 7 0]) (.cond (.l 8) (.draw [(zt 9 2 2,[]),(z1 10 216 9,[]),(zt 11 2 3,[0,1]),(z1 12 216 11,[]),(zs 2 2 10,[]),(zs 2 3 12,[])]) (.skip))) (.seq (.seq (.region [zf 13 1 3,zd 14 1 13,⟨.l 15,.eq false (.ref .slice) (.l 14) (.c (.ah)),none⟩,zn 16 15,zg (zf 17 0 3) 16 true,zg (zd 18 1 17) 16 true,zg (zc 19 .eql 18 1) 16 true,zp 20 16 19]) (.cond (.l 20) (.seq (.region [zt 21 2 2,zt 22 2 3,⟨.l 23,.build [.iV (0),.ah,.iV (0),.ah] [(0,2,(.l 21)),(2,2,(.l 22))],none⟩,zs 4 4 23]) (.ret)) (.skip))) (.seq (.region [zt 24 2 2,zt 25 2 3,z2 26 165 24 25,⟨.p 5,.alloc 131 [.iV (0),.ah],none⟩,zs 2 5 26]) (.seq (.draw [(zt 27 2 2,[]),(zt 28 2 5,[0]),(z2 29 252 27 28,[]),(zt 30 2 3,[0,1,2]),(zt 31 2 5,[0,1,2,3]),(z2 32 252 30 31,[]),(⟨.l 33,.build [.iV (0),.ah,.iV (0),.ah] [(0,2,(.l 29)),(2,2,(.l 32))],none⟩,[]),(zs 4 4 33,[])]) (.ret)))))
theorem Hr:FT 203=some ⟨34,[0,1,2,3,4,5],[.cell 4 true (.p 4)],AP⟩:=by kernel_rfl
def Hs:ak:=.seq (.region [zx 1 133 4 0,⟨.p 2,.alloc 133 [.iV (0),.ah,.iV (0),.ah],none⟩]) (.seq (.draw [(zf 3 0 1,[]),(zT 4 2 3,[]),(z1 5 216 4,[]),(zf 6 2 1,[0,1,2]),(zT 7 2 6,[0,1,2]),(⟨.l 8,.build [.iV (0),.ah,.iV (0),.ah] [(0,2,(.l 5)),(2,2,(.l 7))],none⟩,[]),(zs 4 2 8,[])]) (.ret))
theorem Sg:FT 199=some ⟨9,[0,1,2],[.cell 4 true (.p 2)],Hs⟩:=by kernel_rfl
def Ht:ak:=.seq (.region [zx 1 133 4 0,⟨.p 2,.alloc 133 [.iV (0),.ah,.iV (0),.ah],none⟩]) (.seq (.region [zf 3 2 1,zT 4 2 3,zf 5 0 1,zT 6 2 5,z2 7 203 4 6,zs 4 2 7]) (.ret))
theorem Sh:FT 200=some ⟨8,[0,1,2],[.cell 4 true (.p 2)],Ht⟩:=by kernel_rfl
def Hu:ak:=.seq (.region [zx 1 133 4 0,⟨.p 2,.mv (.c (.bool false)),none⟩]) (.seq (.region [zf 3 2 1,⟨.l 4,.iz 1 (.l 3),none⟩,zd 5 1 4,⟨.l 6,.eq false (.ref .slice) (.l 5) (.c (.ah)),none⟩,zn 7 6,zg (zf 8 2 1) 7 true,⟨.l 9,.iz 0 (.l 8),some ((.l 7),true)⟩,zg (zd 10 1 9) 7 true,zg (zc 11 .eql 10 1) 7 true,zp 12 7 11,zw 2 12]) (.ret))
theorem Si:FT 201=some ⟨13,[0,1,2],[.var (.p 2)],Hu⟩:=by kernel_rfl
def AQ:ak:=.seq (.region [zx 2 133 4 0,zx 3 133 4 1,⟨.p 4,.alloc 133 [.iV (0),.ah,.iV (0),.ah],none⟩]) (.seq (.seq (.region [zt 5 4 2,z1 6 201 5,zn 7 6,zg (zt 8 4 3) 7 true,zg (z1 9 201 8) 7 true,zp 10 7 9]) (.cond (.l 10) (.seq (.region [zf 11 0 2,zT 12 2 11,zf 13 0 3,zT 14 2 13,z2 15 202 12 14,z1 16 159 15,zs 4 4 16]) (.ret)) (.skip))) (.seq (.draw [(zf 17 0 2,[]),(zT 18 2 17,[]),(zf 19 2 3,[0,1]),(zT 20 2 19,[0,1]),(z2 21 198 18 20,[]),(zf 22 0 3,[0,1,2,3,4]),(zT 23 2 22,[0,1,2,3,4]),(zf 24 2 2,[0,1,2,3,4,5,6]),(zT 25 2 24,[0,1,2,3,4,5,6]),(z2 26 198 23 25,[]),(z2 27 202 21 26,[]),(zf 28 2 2,[0,1,2,3,4,5,6,7,8,9,10]),(zT 29 2 28,[0,1,2,3,4,5,6,7,8,9,10]),(zf 30 2 3,[0,1,2,3,4,5,6,7,8,9,10,11,12]),(zT 31 2 30,[0,1,2,3,4,5,6,7,8,9,10,11,12]),(z2 32 198 29 31,[]),(z2 33 203 27 32,[]),(zs 4 4 33,[])]) (.ret)))
theorem Hv:FT 151=some ⟨34,[0,1,2,3,4],[.cell 4 true (.p 4)],AQ⟩:=by kernel_rfl
def Hw:ak:=.seq (.region [zx 2 133 4 0,zx 3 133 4 1,⟨.p 4,.alloc 133 [.iV (0),.ah,.iV (0),.ah],none⟩]) (.seq (.draw [(zt 5 4 2,[]),(zt 6 4 3,[0]),(z1 7 199 6,[0]),(z2 8 151 5 7,[]),(zs 4 4 8,[])]) (.ret))
theorem Sj:FT 149=some ⟨9,[0,1,2,3,4],[.cell 4 true (.p 4)],Hw⟩:=by kernel_rfl
def Hx:ak:=.seq (.region [zx 2 133 4 0,zx 3 133 4 1,⟨.p 4,.alloc 133 [.iV (0),.ah,.iV (0),.ah],none⟩]) (.seq (.draw [(zf 5 0 2,[]),(zT 6 2 5,[]),(zf 7 0 3,[0,1]),(zT 8 2 7,[0,1]),(z2 9 198 6 8,[]),(zf 10 2 2,[0,1,2,3,4]),(zT 11 2 10,[0,1,2,3,4]),(zf 12 2 3,[0,1,2,3,4,5,6]),(zT 13 2 12,[0,1,2,3,4,5,6]),(z2 14 198 11 13,[]),(z2 15 203 9 14,[]),(zs 4 4 15,[])]) (.ret))
theorem Sk:FT 152=some ⟨16,[0,1,2,3,4],[.cell 4 true (.p 4)],Hx⟩:=by kernel_rfl
def Hy:ak:=.seq (.region [zx 2 133 4 0,zx 3 133 4 1,⟨.p 4,.alloc 133 [.iV (0),.ah,.iV (0),.ah],none⟩]) (.seq (.draw [(zt 5 4 2,[]),(zt 6 4 3,[0]),(z1 7 200 6,[0]),(z2 8 152 5 7,[]),(zs 4 4 8,[])]) (.ret))
theorem Sm:FT 150=some ⟨9,[0,1,2,3,4],[.cell 4 true (.p 4)],Hy⟩:=by kernel_rfl
def Hz:ak:=.seq (.region [zx 2 133 4 0,zx 3 133 4 1,zi 4 0]) (.seq (.draw [(zf 5 0 2,[]),(zT 6 2 5,[]),(zf 7 2 3,[0,1]),(zT 8 2 7,[0,1]),(z2 9 198 6 8,[]),(zf 10 0 3,[0,1,2,3,4]),(zT 11 2 10,[0,1,2,3,4]),(zf 12 2 2,[0,1,2,3,4,5,6]),(zT 13 2 12,[0,1,2,3,4,5,6]),(z2 14 198 11 13,[]),(z2 15 167 9 14,[]),(zw 4 15,[])]) (.ret))
theorem Sn:FT 148=some ⟨16,[0,1,2,3,4],[.var (.p 4)],Hz⟩:=by kernel_rfl
def HA:ak:=.seq (.region [zx 1 133 4 0,⟨.p 2,.alloc 131 [.iV (0),.ah],none⟩]) (.seq (.region [zf 6 0 1,zT 7 2 6,zf 8 2 1,zT 9 2 8,z2 10 205 7 9,zn 5 10,ze 11 0 5,ze 12 1 5,⟨.p 3,.alloc 131 [.iV (0),.ah],none⟩,⟨.l 4,.alloc 131 [.iV (0),.ah],none⟩,zs 2 3 11,zS 2 4 12]) (.seq (.region [zt 13 2 3,zs 2 2 13]) (.ret)))
theorem So:FT 160=some ⟨14,[0,1,2,3],[.cell 2 true (.p 2)],HA⟩:=by kernel_rfl
end Go.Ab.Ch1

/-
  Own work: fractions: contents, integers as fractions.
-/
namespace Go.Ab.Ch1
open Go.Ab.bz
variable {M:aO} {cap:Option Nat} {N:Nat}
def iL (v:AV)(n d:Int):Prop:=∃s w s' w',v = .agg [.iV s,w,.iV s',w']/\aL (.agg [.iV s,w]) n/\aL (.agg [.iV s',w']) d
theorem iL.out {v:AV}{n d:Int}{hh:ae}(h:iL v n d):fU (bg [v]) hh v:=by
 obtain⟨s,w,s',w',rfl,h1,h2⟩:=h
 obtain⟨_,t1,c1⟩:=h1.one
 obtain⟨_,t2,c2⟩:=h2.one
 exact .same (by simp[bg,AV.top,br,t1,t2]) (by simp[bg,bM,cB,c1,c2])
structure CF (M:aO)(N:Nat):Prop extends CQ M N where
 AR:∀v z,aL v z->∃v0,iL v0 z 1/\∀h,M.ext 159 [v] h=some ⟨v0,h,[]⟩
 AS:∀a b x y,aL a x->aL b y->an x<wB^N->an y<wB^N->∀h,M.ext 167 [a,b] h=some ⟨.iV (bD (x-y)),h,[]⟩
 jz:vc M N 198 (· * ·)
theorem Sp (C:CD M N){v:AV}{z:Int}(hv:aL v z):∃v0,iL v0 z 1/\cW M 159 [v] v0:=by
 obtain⟨s,w,rfl,o1,_⟩:=hv.shape
 have q168:=C.ny 1
 have hf:iL (.agg [.iV s,w,.iV 1,.ah]) z 1:=⟨_,_,_,_,rfl,hv,.small (by decide)⟩
 refine⟨_,hf,cT (by rw[C.ft];exact Sf) (by simp) ?_⟩
 have out:=fun hh=>hf.out (hh:=hh)
 unfold Hq
 simp only[enter]
 repeat' first|(apply WD.dL;rfl;rfl;(first|(simp only[nca];rfl)|rfl);first|exact q168 _)|(apply WO.cJ;rfl;rfl;rfl;exact⟨rfl,Nat.le_refl _,by simp[overwrite,dx,eE,o1]⟩;rfl)|apply W.seq|apply ab|apply W.region|apply WO.nil|apply W.ret|apply W.draw|apply WD.nil|(apply WD.dE;rfl)|(apply WD.dc;rfl;rfl;(first|(simp only[nca];rfl)|rfl))|(apply WD.eh;rfl;(first|(simp only[nca];rfl)|rfl);(first|(simp only[nca];rfl)|rfl))|(apply WO.aT;rfl;rfl;rfl)|(apply WO.aX;rfl;rfl;rfl)|(apply WO.pl;rfl;rfl)
 exact cw rfl rfl (out _)
theorem Sq (C:CJ M N){v:AV}{n d:Int}(hv:iL v n d)(ln:an n<wB^N):∃v0,iL v0 (-n) d/\cW M 199 [v] v0:=by
 obtain⟨s1,w,s',w',rfl,h1,h2⟩:=hv
 obtain⟨v1,h3,q216⟩:=C.kH _ n h1 ln
 obtain⟨s3,w3,rfl,o3,_⟩:=h3.shape
 obtain⟨o1,_⟩:=h1.one
 obtain⟨o2,_⟩:=h2.one
 have hf:iL (.agg [.iV s3,w3,.iV s',w']) (-n) d:=⟨_,_,_,_,rfl,h3,h2⟩
 refine⟨_,hf,cT (by rw[C.ft];exact Sg) (by simp) ?_⟩
 have out:=fun hh=>hf.out (hh:=hh)
 unfold Hs
 simp only[enter]
 repeat' first|(apply WD.dL;rfl;rfl;(first|(simp only[nca];rfl)|rfl);first|exact q216 _)|(apply WO.cJ;rfl;rfl;rfl;exact⟨rfl,Nat.le_refl _,by simp[overwrite,dx,eE,o2,o3]⟩;rfl)|apply W.seq|apply ab|apply W.region|apply WO.nil|apply W.ret|apply W.draw|apply WD.nil|(apply WD.dE;rfl)|(apply WD.dc;rfl;rfl;(first|(simp only[nca];rfl)|rfl))|(apply WD.eh;rfl;(first|(simp only[nca];rfl)|rfl);(first|(simp only[nca];rfl)|rfl))|(apply WO.aT;rfl;rfl;rfl)|(apply WO.aX;rfl;rfl;rfl)|(apply WO.pl;rfl;rfl)
 exact cw rfl rfl (out _)
end Go.Ab.Ch1

/-
  Own work: integers of any size: greatest common divisors.
-/
namespace Go.Ab.Ch1
open Go.Ab.bz
variable {M:aO} {cap:Option Nat} {N:Nat}
section
variable {t n m:Nat} {x y:aN} {l:List aU} {pe:List AV} {lo:List (Nat×AV)} {H:ae} {df wr:List Nat} {c c' new:List AV} {e:TypeId} {a:Option bA} {Q:aq->Prop}
theorem WO.Sr (hx:(St.mk pe lo (H++[some (.cells c e)]++[a]) df).aa x=some (.ptr H.length 0))(hy:((St.mk pe lo (H++[some (.cells c e)]++[a]) df).aa y).bind AV.cells=some new)(hn:new.length=n/\0+n<=c.length/\new.all cR=true)(hc:overwrite c 0 new=c')
 (h:WO M l ⟨⟨pe,lo,H++[some (.cells c' e)]++[a],df⟩,H.length::wr⟩ Q):WO M (⟨.no,.store n x y,none⟩::l) ⟨⟨pe,lo,H++[some (.cells c e)]++[a],df⟩,wr⟩ Q:=by
 refine WO.cJ hx hy (cG cn) hn hc ?_
 have:ae.put (H++[some (.cells c e)]++[a]) H.length (some (.cells c' e))=H++[some (.cells c' e)]++[a]:=by
  simp[ae.put]
 rw[this]
 exact h
theorem WO.Ss (hx:(St.mk pe lo (H++[a]++[some (.cells c e)]) df).aa x=some (.ptr m 0))(hy:((St.mk pe lo (H++[a]++[some (.cells c e)]) df).aa y).bind AV.cells=some new)(hm:m=H.length+1)(hn:new.length=n/\0+n<=c.length/\new.all cR=true)(hc:overwrite c 0 new=c')
 (h:WO M l ⟨⟨pe,lo,H++[a]++[some (.cells c' e)],df⟩,m::wr⟩ Q):WO M (⟨.no,.store n x y,none⟩::l) ⟨⟨pe,lo,H++[a]++[some (.cells c e)],df⟩,wr⟩ Q:=by
 subst hm
 have hl:H.length+1=(H++[a]).length:=by simp
 rw[hl]at hx h
 refine WO.cJ hx hy cn hn hc ?_
 have:ae.put (H++[a]++[some (.cells c e)]) (H++[a]).length (some (.cells c' e))=H++[a]++[some (.cells c' e)]:=GM
 rw[this]
 exact h
theorem WO.Su {ag:Bool}{v:AV}(hx:(St.mk pe lo (H++[a]++[some (.cells c e)]) df).aa x=some (.ptr m 0))(hm:m=H.length+1)(hv:partOf (c.drop 0) 0 n ag=some v)
 (h:WO M l ⟨⟨pe,(t,v)::lo,H++[a]++[some (.cells c e)],df⟩,wr⟩ Q):WO M (⟨.l t,.load n ag x,none⟩::l) ⟨⟨pe,lo,H++[a]++[some (.cells c e)],df⟩,wr⟩ Q:=by
 subst hm
 have hl:H.length+1=(H++[a]).length:=by simp
 rw[hl]at hx
 exact WO.zy hx cn hv h
end
theorem HB {x y:Int}:Int.gcd y (x%y)=Int.gcd x y:=by
 have h:=Int.gcd_add_mul_left_right y (x%y) (x/y)
 rw[Int.emod_add_mul_ediv]at h
 rw[←h,Int.gcd_comm]
def rS (s s':Int)(w w':AV)(J:ae):ae:=[some (.cells [.iV s,w] 131),some (.cells [.iV s',w'] 131),some (.cells [.iV 0,.ah] 131)]++J
theorem Sv (C:CQ M N){G:Nat}{Q:Ex->aq->Prop}(a0 a1:AV)
 (hQ:∀s s' w w' J p5 lo wr (x:Int),aL (.agg [.iV s,w]) x->x=G->Q (.exit 0) ⟨⟨[a0,a1,.ptr 0 0,.ptr 1 0,.ptr 2 0,p5],lo,rS s s' w w' J,[]⟩,wr⟩)
 (s s':Int) (w w':AV) (J:ae) (p5:AV) (lo:List (Nat×AV)) (wr:List Nat) (x y:Int) (hx:aL (.agg [.iV s,w]) x) (hy:aL (.agg [.iV s',w']) y) (x0:0<=x/\x<wB^N) (y0:0<=y/\y<wB^N) (hG:Int.gcd x y=G) :
 W M (.loop uZ) ⟨⟨[a0,a1,.ptr 0 0,.ptr 1 0,.ptr 2 0,p5],lo,rS s s' w w' J,[]⟩,wr⟩ Q:=by
 refine W.ij (fun m st=>∃s s' w w' J p5 lo wr x y,st=⟨⟨[a0,a1,.ptr 0 0,.ptr 1 0,.ptr 2 0,p5],lo,rS s s' w w' J,[]⟩,wr⟩/\m=y.toNat/\aL (.agg [.iV s,w]) x/\aL (.agg [.iV s',w']) y/\(0<=x/\x<wB^N)/\(0<=y/\y<wB^N)/\Int.gcd x y=G)
  (fun m st ⟨s,s',w,w',J,p5,lo,wr,x,y,hst,hm,hx,hy,x0,y0,hG⟩=>?_) (m:=y.toNat) ⟨s,s',w,w',J,p5,lo,wr,x,y,rfl,rfl,hx,hy,x0,y0,hG⟩
 subst hst
 subst hm
 have q211:=C.nw _ y hy
 by_cases h0:y=0
 . subst h0
   have e:x=G:=by rw[←hG,Int.gcd_zero];omega
   rw[show bD 0=0 from rfl]at q211
   unfold uZ
   repeat' first|apply W.seq|apply ab|apply W.region|apply WO.nil|apply W.exit|apply cj|apply eA|(apply W.aw;rfl)|(apply WO.neq;rfl;rfl)|(apply WO.ay;rfl;rfl;first|exact q211 _)|(apply WO.aT;rfl;rfl;rfl)|(intro _;omega)|intro _
   all_goals try omega
   exact hQ _ _ _ _ _ _ _ _ x hx e
 . rw[show bD y=1 by unfold bD;rw[if_neg (by omega),if_pos (by omega)]]at q211
   obtain⟨q,r,hq,hr,q205⟩:=C.rR _ _ x y hx hy (by rw[cQ x0.1];exact x0.2) (by rw[cQ y0.1];exact y0.2) (by omega)
   obtain⟨o1,_⟩:=hx.one
   obtain⟨o2,_⟩:=hy.one
   obtain⟨s1,w1,rfl,o3,_⟩:=hq.shape
   obtain⟨s2,w2,rfl,o4,_⟩:=hr.shape
   have r0:=Int.emod_nonneg x (show y≠0 by omega)
   have r1:=Int.emod_lt_of_pos x (show 0<y by omega)
   have next:∀J p5 lo wr,LI (fun st=>∃m',m'<y.toNat/\∃s s' w w' J p5 lo wr x y,st=⟨⟨[a0,a1,.ptr 0 0,.ptr 1 0,.ptr 2 0,p5],lo,rS s s' w w' J,[]⟩,wr⟩/\m'=y.toNat/\aL (.agg [.iV s,w]) x/\aL (.agg [.iV s',w']) y/\(0<=x/\x<wB^N)/\(0<=y/\y<wB^N)/\Int.gcd x y=G) Q .normal ⟨⟨[a0,a1,.ptr 0 0,.ptr 1 0,.ptr 2 0,p5],lo,rS s' s2 w' w2 J,[]⟩,wr⟩:=fun J p5 lo wr=>
    ek ⟨(x%y).toNat,by omega,_,_,_,_,J,p5,lo,wr,y,x%y,rfl,rfl,hy,hr,y0,⟨r0,by omega⟩,by rw[HB,hG]⟩
   unfold uZ
   repeat' first|(apply WO.Sr;rfl;rfl;exact⟨rfl,Nat.le_refl _,by simp[overwrite,dx,o3]⟩;rfl)|(apply WO.Ss;rfl;rfl;simp;exact⟨rfl,Nat.le_refl _,by simp[overwrite,dx,o4]⟩;rfl)|(apply WO.Su;rfl;simp;rfl)|(apply WO.cJ;rfl;rfl;rfl;exact⟨rfl,Nat.le_refl _,by simp[overwrite,dx,o2,o4]⟩;rfl)|apply W.seq|apply ab|apply W.region|apply WO.nil|apply W.block|apply W.skip|apply bK|apply W.draw|apply WD.nil|(apply WD.dc;rfl;rfl;(first|(simp only[nca];rfl)|rfl))|(apply WD.eh;rfl;(first|(simp only[nca];rfl)|rfl);(first|(simp only[nca];rfl)|rfl))|(apply W.ax;rfl)|(apply WO.neq;rfl;rfl)|(apply WO.ay;rfl;rfl;first|exact q211 _|exact q205 _)|(apply WO.aT;rfl;rfl;rfl)|(apply WO.aX;rfl;rfl;rfl)|(apply WO.pl;rfl;rfl)|(intro _;omega)|intro _
   all_goals try omega
   all_goals exact next _ _ _ _
structure CG (M:aO)(N:Nat):Prop extends CQ M N where
 AT:Op1 M N 210 an
theorem Sw {x y:Int}:Int.gcd (an x) (an y)=Int.gcd x y:=by
 have h:∀z:Int,(an z).natAbs=z.natAbs:=fun z=>by unfold an;split <;> omega
 show Nat.gcd _ _=Nat.gcd _ _
 rw[h,h]
theorem Sx (C:CG M N){a b:AV}{x y:Int}(ha:aL a x)(hb:aL b y)(lx:an x<wB^N)(ly:an y<wB^N):∃v0,aL v0 (Int.gcd x y:Nat)/\cW M 165 [a,b] v0:=by
 obtain⟨va,h1,q210a⟩:=C.AT a x ha lx
 obtain⟨vb,h2,q210b⟩:=C.AT b y hb ly
 obtain⟨sa,wa,rfl,o1,_⟩:=ha.shape
 obtain⟨sb,wb,rfl,o2,_⟩:=hb.shape
 obtain⟨s1,w1,rfl,o3,_⟩:=h1.shape
 obtain⟨s2,w2,rfl,o4,_⟩:=h2.shape
 obtain⟨v,hh,⟨v0,h0,ho⟩,hr⟩:=iF (M:=M) (f:=165) (ars:=[.agg [.iV sa,wa],.agg [.iV sb,wb]]) (P:=fun v hh=>∃v0,aL v0 (Int.gcd x y:Nat)/\fU v hh v0) (by rw[C.ft];exact RH) (by simp) (by
  unfold Hh
  simp only[enter]
  repeat' first|(apply WD.dL;rfl;rfl;(first|(simp only[nca];rfl)|rfl);first|exact q210a _|exact q210b _)|(apply WO.cJ;rfl;rfl;rfl;exact⟨rfl,Nat.le_refl _,by simp[overwrite,dx,o3,o4]⟩;rfl)|apply W.seq|apply ab|apply W.region|apply WO.nil|apply W.block|apply W.draw|apply WD.nil|(apply WD.dc;rfl;rfl;(first|(simp only[nca];rfl)|rfl))|(apply WD.eh;rfl;(first|(simp only[nca];rfl)|rfl);(first|(simp only[nca];rfl)|rfl))|(apply WO.aT;rfl;rfl;rfl)|(apply WO.aX;rfl;rfl;rfl)
  refine Sv C.toCQ (G:=Int.gcd x y) _ _ (fun s s' w w' J p5 lo wr g hg eg=>?_) s1 s2 w1 w2 [] _ _ _ (an x) (an y) h1 h2 ⟨iq,lx⟩ ⟨iq,ly⟩ Sw
  obtain⟨o5,t5,k5⟩:=hg.one
  repeat' first|(apply WO.cJ;rfl;rfl;rfl;exact⟨rfl,Nat.le_refl _,by simp[overwrite,dx,o5]⟩;rfl)|apply W.seq|apply ab|apply W.region|apply WO.nil|apply W.ret|apply cg|(apply WO.aT;rfl;rfl;rfl)
  rw[eg]at hg
  exact⟨.inr rfl,rfl,_,rfl,_,hg,hg.out⟩)
 exact⟨v0,h0,v,hh,ho,hr⟩
end Go.Ab.Ch1

/-
  Own work: fractions in lowest terms.
-/
namespace Go.Ab.Ch1
open Go.Ab.bz
variable {M:aO} {cap:Option Nat} {N:Nat}
def bm (v:AV)(q:Rat):Prop:=iL v q.num q.den
structure CR (M:aO)(N:Nat):Prop extends CG M N where
 rT:∀a b x y,aL a x->aL b y->an x<wB^N->an y<wB^N->∃v0,aL v0 (Int.gcd x y:Nat)/\∀h,M.ext 165 [a,b] h=some ⟨v0,h,[]⟩
 AU:∀a b x y k,aL a x->aL b y->an x<wB^N->an y<wB^N->y≠0->x=y*k->∃v0,aL v0 k/\∀h,M.ext 252 [a,b] h=some ⟨v0,h,[]⟩
def t203:ak:=
 .seq (.seq (.region [zf 13 1 3,
       zd 14 1 13,
       ⟨(.l 15),.eq false (.ref .slice) (.l 14) (.c (.ah)),none⟩,
       zn 16 15,
       zg (zf 17 0 3) 16 true,
       zg (zd 18 1 17) 16 true,
       zg (zc 19 .eql 18 1) 16 true,
       zp 20 16 19])
     (
      .cond (.l 20)
      (
       .seq (.region [zt 21 2 2,
         zt 22 2 3,
         ⟨(.l 23),.build [.iV (0),.ah,.iV (0),.ah] [(0,2,(.l 21)),(2,2,(.l 22))],none⟩,
         zs 4 4 23])
       (.ret))
      (.skip)))
    (
     .seq (.region [zt 24 2 2,
       zt 25 2 3,
       z2 26 165 24 25,
       ⟨(.p 5),.alloc 131 [.iV (0),.ah],none⟩,
       zs 2 5 26])
     (
      .seq (.draw [(zt 27 2 2,[]),
        (zt 28 2 5,[0]),
        (z2 29 252 27 28,[]),
        (zt 30 2 3,[0,1,2]),
        (zt 31 2 5,[0,1,2,3]),
        (z2 32 252 30 31,[]),
        (⟨(.l 33),.build [.iV (0),.ah,.iV (0),.ah] [(0,2,(.l 29)),(2,2,(.l 32))],none⟩,[]),
        (zs 4 4 33,[])])
      (.ret)))
theorem kJ {n:Int}:(Rat.divInt n 1).num=n/\(Rat.divInt n 1).den=1:=by
 refine⟨?_,?_⟩
 . rw[Rat.num_divInt];simp
 . rw[Rat.den_divInt];simp
theorem HC {n d:Int}(h:0<d):∃k1 k2:Int,n=(Int.gcd n d:Nat)*k1/\d=(Int.gcd n d:Nat)*k2/\(Rat.divInt n d).num=k1/\((Rat.divInt n d).den:Int)=k2:=by
 have g0:(Int.gcd n d:Int)≠0:=by
  have:=Int.gcd_pos_of_ne_zero_right n (show d≠0 by omega)
  omega
 obtain⟨k1,h1⟩:=Int.gcd_dvd_left n d
 obtain⟨k2,h2⟩:=Int.gcd_dvd_right n d
 refine⟨k1,k2,h1,h2,?_,?_⟩
 . rw[Rat.num_divInt,Int.sign_eq_one_of_pos h,Int.one_mul,Int.gcd_comm d n]
   exact Int.ediv_eq_of_eq_mul_right g0 h1
 . rw[Rat.den_divInt,if_neg (by omega),Int.gcd_comm d n]
   have e:((d.natAbs/Int.gcd n d:Nat):Int)=d/(Int.gcd n d:Int):=by
    rw[Int.natCast_ediv,Int.natAbs_of_nonneg (by omega)]
   rw[e]
   exact Int.ediv_eq_of_eq_mul_right g0 h2
theorem Sy {x y:Int}(h:0<y):an (Int.gcd x y:Nat)<=an y:=by
 have:=Int.le_of_dvd h (Int.gcd_dvd_right x y)
 rw[cQ (by omega),cQ (by omega)]
 exact this
theorem HD (C:CR M N){s s' n d:Int}{w w':AV}(hn:aL (.agg [.iV s,w]) n)(hd:aL (.agg [.iV s',w']) d)(ln:an n<wB^N)(ld:an d<wB^N)(d0:0<d) :
 ∃v0,bm v0 (Rat.divInt n d)/\∀a0 a1 p5 lo wr,W M t203 ⟨⟨[a0,a1,.ptr 0 0,.ptr 1 0,.ptr 2 0,p5],lo,[some (.cells [.iV s,w] 131),some (.cells [.iV s',w'] 131),some (.cells [.iV 0,.ah,.iV 0,.ah] 133)],[]⟩,wr⟩ (kG v0 [.cell 4 true (.p 4)]):=by
 obtain⟨o1,_⟩:=hn.one
 by_cases h1:d=1/\w' = .ah
 . obtain⟨rfl,rfl⟩:=h1
   have hs:s'=1:=by cases hd;rfl
   subst hs
   have hf:bm (.agg [.iV s,w,.iV 1,.ah]) (Rat.divInt n 1):=by
    unfold bm
    rw[kJ.1,kJ.2]
    exact⟨_,_,_,_,rfl,hn,hd⟩
   refine⟨_,hf,fun a0 a1 p5 lo wr=>?_⟩
   have out:=fun hh=>hf.out (hh:=hh)
   unfold t203
   repeat' first|(apply WO.cJ;rfl;rfl;rfl;exact⟨rfl,Nat.le_refl _,by simp[overwrite,dx,eE,o1]⟩;rfl)|apply W.seq|apply ab|apply W.region|apply WO.nil|apply W.ret|apply ba|(apply W.ax;rfl)|(apply WO.gT;rfl)|(apply WO.eql;rfl;rfl)|(apply WO.bn;rfl;rfl)|(apply WO.aT;rfl;rfl;rfl)|(apply WO.pl;rfl;rfl)|(intro _;omega)|intro _
   all_goals try omega
   all_goals exact cw rfl rfl (out _)
 . obtain⟨k1,k2,e1,e2,e3,e4⟩:=HC (n:=n) d0
   obtain⟨vg,hg,q165⟩:=C.rT _ _ n d hn hd ln ld
   have lg:an (Int.gcd n d:Nat)<wB^N:=Int.lt_of_le_of_lt (Sy d0) ld
   have g0:(Int.gcd n d:Int)≠0:=by
    have:=Int.gcd_pos_of_ne_zero_right n (show d≠0 by omega)
    omega
   obtain⟨v1,hv1,q252a⟩:=C.AU _ vg n _ k1 hn hg ln lg g0 e1
   obtain⟨v2,hv2,q252b⟩:=C.AU _ vg d _ k2 hd hg ld lg g0 e2
   obtain⟨sg,wg,rfl,og,_⟩:=hg.shape
   obtain⟨s1,w1,rfl,o3,_⟩:=hv1.shape
   obtain⟨s2,w2,rfl,o4,_⟩:=hv2.shape
   have hf:bm (.agg [.iV s1,w1,.iV s2,w2]) (Rat.divInt n d):=by
    unfold bm
    rw[e3,e4]
    exact⟨_,_,_,_,rfl,hv1,hv2⟩
   refine⟨_,hf,fun a0 a1 p5 lo wr=>?_⟩
   have out:=fun hh=>hf.out (hh:=hh)
   unfold t203
   cases hd with
   | small h=>
    have h2:s'≠1:=fun e=>h1 ⟨e,rfl⟩
    repeat' first|(apply WO.ay;rfl;rfl;first|exact q165 _|exact q252a _|exact q252b _)|(apply WD.dL;rfl;rfl;(first|(simp only[nca];rfl)|rfl);first|exact q165 _|exact q252a _|exact q252b _)|(apply WO.cJ;rfl;rfl;rfl;exact⟨rfl,Nat.le_refl _,by simp[overwrite,dx,eE,og,o3,o4]⟩;rfl)|apply W.seq|apply ab|apply W.region|apply WO.nil|apply W.ret|apply W.skip|apply W.draw|apply WD.nil|(apply WD.dE;rfl)|(apply WD.dc;rfl;rfl;(first|(simp only[nca];rfl)|rfl))|(apply WD.eh;rfl;(first|(simp only[nca];rfl)|rfl);(first|(simp only[nca];rfl)|rfl))|(apply W.aw;rfl)|(apply WO.gT;rfl)|(apply WO.eql;rfl;rfl)|(apply WO.bn;rfl;rfl)|(apply WO.aT;rfl;rfl;rfl)|(apply WO.aX;rfl;rfl;rfl)|(apply WO.pl;rfl;rfl)|(intro _;omega)|intro _
    all_goals try omega
    all_goals exact cw rfl rfl (out _)
   | @eC σ z ww hs ok nr hw hz=>
    cases ww with
    | nil=>simp[WV]at hw
    | cons y ww=>
    repeat' first|(apply WO.ay;rfl;rfl;first|exact q165 _|exact q252a _|exact q252b _)|(apply WD.dL;rfl;rfl;(first|(simp only[nca];rfl)|rfl);first|exact q165 _|exact q252a _|exact q252b _)|(apply WO.cJ;rfl;rfl;rfl;exact⟨rfl,Nat.le_refl _,by simp[overwrite,dx,eE,og,o3,o4]⟩;rfl)|apply W.seq|apply ab|apply W.region|apply WO.nil|apply W.ret|apply W.skip|apply W.draw|apply WD.nil|(apply WD.dE;rfl)|(apply WD.dc;rfl;rfl;(first|(simp only[nca];rfl)|rfl))|(apply WD.eh;rfl;(first|(simp only[nca];rfl)|rfl);(first|(simp only[nca];rfl)|rfl))|(apply W.aw;rfl)|(apply WO.sT;rfl)|(apply WO.bx;rfl;rfl)|(apply WO.aT;rfl;rfl;rfl)|(apply WO.aX;rfl;rfl;rfl)|(apply WO.pl;rfl;rfl)
    all_goals try omega
    all_goals exact cw rfl rfl (out _)
end Go.Ab.Ch1

/-
  Own work: fractions: made, their operations.
-/
namespace Go.Ab.Ch1
open Go.Ab.bz
variable {M:aO} {cap:Option Nat} {N:Nat}
theorem Sz (C:CR M N){a b:AV}{n d:Int}(ha:aL a n)(hb:aL b d)(ln:an n<wB^N)(ld:an d<wB^N)(d0:d≠0):∃v0,bm v0 (Rat.divInt n d)/\cW M 203 [a,b] v0:=by
 have q211:=C.nw b d hb
 by_cases hn:d<0
 . rw[show bD d = -1 from if_pos hn]at q211
   obtain⟨va,h1,q216a⟩:=C.kH a n ha ln
   obtain⟨vb,h2,q216b⟩:=C.kH b d hb ld
   have h1:aL va (-n):=h1
   have h2:aL vb (-d):=h2
   obtain⟨_,_,rfl,o1,_⟩:=ha.shape
   obtain⟨_,_,rfl,o2,_⟩:=hb.shape
   obtain⟨_,_,rfl,o3,_⟩:=h1.shape
   obtain⟨_,_,rfl,o4,_⟩:=h2.shape
   obtain⟨v0,hf,tl⟩:=HD C h1 h2 (by rw[jU];exact ln) (by rw[jU];exact ld) (by omega)
   rw[Rat.neg_divInt_neg]at hf
   refine⟨v0,hf,cT (by rw[C.ft];exact Hr) (by simp) ?_⟩
   unfold AP
   simp only[enter]
   repeat' first|(exact tl _ _ _ _ _)|(apply WO.ay;rfl;rfl;first|exact q211 _|exact q216a _|exact q216b _)|(apply WD.dL;rfl;rfl;(first|(simp only[nca];rfl)|rfl);first|exact q211 _|exact q216a _|exact q216b _)|(apply WO.cJ;rfl;rfl;rfl;exact⟨rfl,Nat.le_refl _,by simp[overwrite,dx,eE,o3,o4]⟩;rfl)|apply W.seq|apply ab|apply W.region|apply WO.nil|apply W.draw|apply WD.nil|(apply WD.dc;rfl;rfl;(first|(simp only[nca];rfl)|rfl))|(apply WD.eh;rfl;(first|(simp only[nca];rfl)|rfl);(first|(simp only[nca];rfl)|rfl))|(apply W.ax;rfl)|(apply WO.lss;rfl;rfl)|(apply WO.aT;rfl;rfl;rfl)|(apply WO.aX;rfl;rfl;rfl)|(intro _;omega)|intro _
   all_goals try omega
 . obtain⟨g,hg⟩:∃g,g=bD d:=⟨_,rfl⟩
   have g0:0<=g:=by rw[hg];unfold bD;split <;> (first|omega|(split <;> omega))
   rw[←hg]at q211
   obtain⟨_,_,rfl,o1,_⟩:=ha.shape
   obtain⟨_,_,rfl,o2,_⟩:=hb.shape
   obtain⟨v0,hf,tl⟩:=HD C ha hb ln ld (by omega)
   refine⟨v0,hf,cT (by rw[C.ft];exact Hr) (by simp) ?_⟩
   unfold AP
   simp only[enter]
   repeat' first|(exact tl _ _ _ _ _)|(apply WO.ay;rfl;rfl;first|exact q211 _)|apply W.seq|apply ab|apply W.region|apply WO.nil|apply W.skip|(apply W.aw;rfl)|(apply WO.lss;rfl;rfl)|(apply WO.aT;rfl;rfl;rfl)|(apply WO.aX;rfl;rfl;rfl)|(intro _;omega)|intro _
   all_goals try omega
def Bq (N:Nat)(q:Rat):Prop:=an q.num<wB^N/\(q.den:Int)<wB^N
structure CS (M:aO)(N N2:Nat):Prop extends CF M N where
 eC:CF M N2
 hN:2*N+1<=N2
 vd:∀a b n d,aL a n->aL b d->an n<wB^N2->an d<wB^N2->d≠0->∃v0,bm v0 (Rat.divInt n d)/\∀h,M.ext 203 [a,b] h=some ⟨v0,h,[]⟩
theorem den_pos {q:Rat}:0<(q.den:Int):=by have:=q.den_pos;omega
theorem rU {x y:Int}:an (x*y)=an x*an y:=by
 have h:∀z:Int,an z=(z.natAbs:Int):=fun z=>by unfold an;split <;> omega
 rw[h,h,h,Int.natAbs_mul,Int.natCast_mul]
variable {N2:Nat}
theorem CS.nz (C:CS M N N2){x y:Int}(hx:an x<wB^N)(hy:an y<wB^N):an (x*y)<wB^N2:=by
 rw[rU]
 have h1:=Int.mul_le_mul_of_nonneg_left (Int.le_of_lt hy) (iq (x:=x))
 have hp:(0:Int)<wB^N:=Int.pow_pos (by decide)
 have h2:=Int.mul_lt_mul_of_pos_right hx hp
 have h3:=gZ (b:=wB) (by decide) (m:=N+N) (n:=N2) (by have:=C.hN;omega)
 rw[Int.pow_add]at h3
 omega
theorem SA (C:CS M N N2){a b:AV}{p q:Rat}(ha:bm a p)(hb:bm b q)(lp:Bq N p)(lq:Bq N q):∃v0,bm v0 (p*q)/\cW M 152 [a,b] v0:=by
 obtain⟨s1,w1,s2,w2,rfl,h1,h2⟩:=ha
 obtain⟨s3,w3,s4,w4,rfl,h3,h4⟩:=hb
 have dp:=den_pos (q:=p)
 have dq:=den_pos (q:=q)
 obtain⟨v1,k1,q198a⟩:=C.jz _ _ _ _ h1 h3 lp.1 lq.1
 obtain⟨v2,k2,q198b⟩:=C.jz _ _ _ _ h2 h4 (by rw[cQ (by omega)];exact lp.2) (by rw[cQ (by omega)];exact lq.2)
 obtain⟨v0,k0,q203⟩:=C.vd v1 v2 _ _ k1 k2 (C.nz lp.1 lq.1) (C.nz (by rw[cQ (by omega)];exact lp.2) (by rw[cQ (by omega)];exact lq.2)) (Int.ne_of_gt (Int.mul_pos dp dq))
 have k0:bm v0 (p*q):=by
  have e:=Rat.divInt_mul_divInt p.num q.num (d₁:=p.den) (d₂:=q.den)
  rw[Rat.num_divInt_den,Rat.num_divInt_den]at e
  rw[e];exact k0
 refine⟨v0,k0,cT (by rw[C.ft];exact Sk) (by simp) ?_⟩
 have out:=fun hh=>k0.out (hh:=hh)
 obtain⟨s5,w5,s6,w6,rfl,h5,h6⟩:=k0
 obtain⟨o5,_⟩:=h5.one
 obtain⟨o6,_⟩:=h6.one
 unfold Hx
 simp only[enter]
 repeat' first|(apply WD.dL;rfl;rfl;(first|(simp only[nca];rfl)|rfl);first|exact q198a _|exact q198b _|exact q203 _)|(apply WO.cJ;rfl;rfl;rfl;exact⟨rfl,Nat.le_refl _,by simp[overwrite,dx,eE,o5,o6]⟩;rfl)|apply W.seq|apply ab|apply W.region|apply WO.nil|apply W.ret|apply W.draw|apply WD.nil|(apply WD.dE;rfl)|(apply WD.dc;rfl;rfl;(first|(simp only[nca];rfl)|rfl))|(apply WD.eh;rfl;(first|(simp only[nca];rfl)|rfl);(first|(simp only[nca];rfl)|rfl))|(apply WO.aT;rfl;rfl;rfl)|(apply WO.aX;rfl;rfl;rfl)|(apply WO.pl;rfl;rfl)
 all_goals exact cw rfl rfl (out _)
end Go.Ab.Ch1

/-
  Own work: fractions: whole ones, inverses, sums, differences, quotients, comparisons.
-/
namespace Go.Ab.Ch1
open Go.Ab.bz
variable {M:aO} {cap:Option Nat} {N N2:Nat}
theorem SB (hft:M.FT=FT){v:AV}{q:Rat}(hv:bm v q):cW M 201 [v] (.bool (decide (q.den=1))):=by
 obtain⟨s1,w1,s2,w2,rfl,h1,h2⟩:=hv
 generalize hd:(q.den:Int)=d at h2
 refine cT (by rw[hft];exact Si) (by simp) ?_
 unfold Hu
 simp only[enter]
 cases h2 with
 | small h=>
  by_cases h1:q.den=1
  . rw[decide_eq_true h1]
    repeat' first|apply W.seq|apply ab|apply W.region|apply WO.nil|apply W.ret|(apply WO.gT;rfl)|(apply WO.eql;rfl;rfl)|(apply WO.bn;rfl;rfl)|(apply WO.aT;rfl;rfl;rfl)|(apply WO.aX;rfl;rfl;rfl)|(apply WO.pl;rfl;rfl)|(apply WO.pp;rfl;rfl)|(intro _;omega)|intro _
    all_goals try omega
    all_goals exact cw rfl rfl (.same rfl rfl)
  . rw[decide_eq_false h1]
    repeat' first|apply W.seq|apply ab|apply W.region|apply WO.nil|apply W.ret|(apply WO.gT;rfl)|(apply WO.eql;rfl;rfl)|(apply WO.bn;rfl;rfl)|(apply WO.aT;rfl;rfl;rfl)|(apply WO.aX;rfl;rfl;rfl)|(apply WO.pl;rfl;rfl)|(apply WO.pp;rfl;rfl)|(intro _;omega)|intro _
    all_goals try omega
    all_goals exact cw rfl rfl (.same rfl rfl)
 | @eC σ z w hs ok nr hw hz=>
  have hz:=hz
  have h1:q.den≠1:=by
   have:=den_pos (q:=q)
   rcases hs with rfl|rfl <;> omega
  rw[decide_eq_false h1]
  cases w with
  | nil=>simp[WV]at hw
  | cons y w=>
  repeat' first|apply W.seq|apply ab|apply W.region|apply WO.nil|apply W.ret|(apply WO.sT;rfl)|(apply WO.bx;rfl;rfl)|(apply WO.aT;rfl;rfl;rfl)|(apply WO.aX;rfl;rfl;rfl)|(apply WO.pl;rfl;rfl)|(apply WO.pp;rfl;rfl)
  all_goals try omega
  all_goals exact cw rfl rfl (.same rfl rfl)
structure AW (M:aO)(N N2:Nat):Prop extends CS M N N2 where
 mc:∀v q,bm v q->∀h,M.ext 201 [v] h=some ⟨.bool (decide (q.den=1)),h,[]⟩
theorem bm.one {v:AV}{n:Int}(h:iL v n 1):bm v (Rat.divInt n 1):=by
 unfold bm
 rw[kJ.1,kJ.2]
 exact h
theorem ve (p q:Rat):p+q=Rat.divInt (p.num*q.den+q.num*p.den) (p.den*q.den):=by
 have dp:=den_pos (q:=p)
 have dq:=den_pos (q:=q)
 have e:=Rat.divInt_add_divInt p.num q.num (d₁:=p.den) (d₂:=q.den) (by omega) (by omega)
 rwa [Rat.num_divInt_den,Rat.num_divInt_den]at e
theorem CS.SC (C:CS M N N2){x y x' y':Int}(hx:an x<wB^N)(hy:an y<wB^N)(hx':an x'<wB^N)(hy':an y'<wB^N):an (x*y+x'*y')<wB^N2:=by
 have hp:(0:Int)<wB^N:=Int.pow_pos (by decide)
 have key:∀{x y:Int},an x<wB^N->an y<wB^N->an (x*y)<wB^(N+N):=fun {x y} hx hy=>by
  rw[rU,Int.pow_add]
  have h1:=Int.mul_le_mul_of_nonneg_left (Int.le_of_lt hy) (iq (x:=x))
  have h2:=Int.mul_lt_mul_of_pos_right hx hp
  omega
 have k1:=key hx hy
 have k2:=key hx' hy'
 have k3:an (x*y+x'*y')<=an (x*y)+an (x'*y'):=by unfold an;split <;> split <;> split <;> omega
 have h3:=gZ (b:=wB) (by decide) (m:=N+N+1) (n:=N2) (by have:=C.hN;omega)
 have hq:(0:Int)<wB^(N+N):=Int.pow_pos (by decide)
 have e:wB^(N+N+1)=wB^(N+N)*18446744073709551616:=Int.pow_succ _ _
 omega
theorem SD (C:AW M N N2){a b:AV}{p q:Rat}(ha:bm a p)(hb:bm b q)(lp:Bq N p)(lq:Bq N q):∃v0,bm v0 (p+q)/\cW M 151 [a,b] v0:=by
 have q201a:=C.mc a p ha
 have q201b:=C.mc b q hb
 obtain⟨s1,w1,s2,w2,rfl,h1,h2⟩:=ha
 obtain⟨s3,w3,s4,w4,rfl,h3,h4⟩:=hb
 have dp:=den_pos (q:=p)
 have dq:=den_pos (q:=q)
 have hdp:an (p.den:Int)<wB^N:=by rw[cQ (by omega)];exact lp.2
 have hdq:an (q.den:Int)<wB^N:=by rw[cQ (by omega)];exact lq.2
 by_cases hw:p.den=1/\q.den=1
 . obtain⟨v1,k1,q202⟩:=C.pL _ _ _ _ h1 h3 lp.1 lq.1
   obtain⟨v0,k0,q159⟩:=C.AR _ _ k1
   have k0:bm v0 (p+q):=by
    have:=bm.one k0
    rw[ve,hw.1,hw.2]
    simpa using this
   refine⟨v0,k0,cT (by rw[C.ft];exact Hv) (by simp) ?_⟩
   have out:=fun hh=>k0.out (hh:=hh)
   obtain⟨s5,w5,s6,w6,rfl,h5,h6⟩:=k0
   obtain⟨o5,_⟩:=h5.one
   obtain⟨o6,_⟩:=h6.one
   rw[decide_eq_true hw.1]at q201a
   rw[decide_eq_true hw.2]at q201b
   unfold AQ
   simp only[enter]
   repeat' first|(apply WO.ay;rfl;rfl;first|exact q201a _|exact q201b _|exact q202 _|exact q159 _)|(apply WO.cJ;rfl;rfl;rfl;exact⟨rfl,Nat.le_refl _,by simp[overwrite,dx,eE,o5,o6]⟩;rfl)|apply W.seq|apply ab|apply W.region|apply WO.nil|apply W.ret|apply ba|(apply W.ax;rfl)|(apply WO.gT;rfl)|(apply WO.bn;rfl;rfl)|(apply WO.aT;rfl;rfl;rfl)|(apply WO.aX;rfl;rfl;rfl)|(apply WO.pl;rfl;rfl)
   all_goals exact cw rfl rfl (out _)
 . obtain⟨v1,k1,q198a⟩:=C.jz _ _ _ _ h1 h4 lp.1 hdq
   obtain⟨v2,k2,q198b⟩:=C.jz _ _ _ _ h3 h2 lq.1 hdp
   obtain⟨v3,k3,q202⟩:=C.eC.pL v1 v2 _ _ k1 k2 (C.nz lp.1 hdq) (C.nz lq.1 hdp)
   obtain⟨v4,k4,q198c⟩:=C.jz _ _ _ _ h2 h4 hdp hdq
   obtain⟨v0,k0,q203⟩:=C.vd v3 v4 _ _ k3 k4 (C.SC lp.1 hdq lq.1 hdp) (C.nz hdp hdq) (Int.ne_of_gt (Int.mul_pos dp dq))
   have k0:bm v0 (p+q):=by rw[ve];exact k0
   refine⟨v0,k0,cT (by rw[C.ft];exact Hv) (by simp) ?_⟩
   have out:=fun hh=>k0.out (hh:=hh)
   obtain⟨s5,w5,s6,w6,rfl,h5,h6⟩:=k0
   obtain⟨o5,_⟩:=h5.one
   obtain⟨o6,_⟩:=h6.one
   unfold AQ
   simp only[enter]
   by_cases hp1:p.den=1
   . have hq1:q.den≠1:=fun e=>hw ⟨hp1,e⟩
     rw[decide_eq_true hp1]at q201a
     rw[decide_eq_false hq1]at q201b
     repeat' first|(apply WO.ay;rfl;rfl;first|exact q201a _|exact q201b _|exact q198a _|exact q198b _|exact q198c _|exact q202 _|exact q203 _)|(apply WD.dL;rfl;rfl;(first|(simp only[nca];rfl)|rfl);first|exact q201a _|exact q201b _|exact q198a _|exact q198b _|exact q198c _|exact q202 _|exact q203 _)|(apply WO.cJ;rfl;rfl;rfl;exact⟨rfl,Nat.le_refl _,by simp[overwrite,dx,eE,o5,o6]⟩;rfl)|apply W.seq|apply ab|apply W.region|apply WO.nil|apply W.ret|apply W.skip|apply W.draw|apply WD.nil|(apply WD.dE;rfl)|(apply WD.dc;rfl;rfl;(first|(simp only[nca];rfl)|rfl))|(apply WD.eh;rfl;(first|(simp only[nca];rfl)|rfl);(first|(simp only[nca];rfl)|rfl))|(apply W.aw;rfl)|(apply WO.gT;rfl)|(apply WO.bn;rfl;rfl)|(apply WO.aT;rfl;rfl;rfl)|(apply WO.aX;rfl;rfl;rfl)|(apply WO.pl;rfl;rfl)
     all_goals exact cw rfl rfl (out _)
   . rw[decide_eq_false hp1]at q201a
     repeat' first|(apply WO.ay;rfl;rfl;first|exact q201a _|exact q198a _|exact q198b _|exact q198c _|exact q202 _|exact q203 _)|(apply WD.dL;rfl;rfl;(first|(simp only[nca];rfl)|rfl);first|exact q201a _|exact q198a _|exact q198b _|exact q198c _|exact q202 _|exact q203 _)|(apply WO.cJ;rfl;rfl;rfl;exact⟨rfl,Nat.le_refl _,by simp[overwrite,dx,eE,o5,o6]⟩;rfl)|apply W.seq|apply ab|apply W.region|apply WO.nil|apply W.ret|apply W.skip|apply W.draw|apply WD.nil|(apply WD.dE;rfl)|(apply WD.dc;rfl;rfl;(first|(simp only[nca];rfl)|rfl))|(apply WD.eh;rfl;(first|(simp only[nca];rfl)|rfl);(first|(simp only[nca];rfl)|rfl))|(apply W.aw;rfl)|(apply WO.sT;rfl)|(apply WO.bx;rfl;rfl)|(apply WO.aT;rfl;rfl;rfl)|(apply WO.aX;rfl;rfl;rfl)|(apply WO.pl;rfl;rfl)
     all_goals exact cw rfl rfl (out _)
end Go.Ab.Ch1

/-
  Own work: fractions: opposites, inverses, differences, quotients, comparisons, whole parts.
-/
namespace Go.Ab.Ch1
open Go.Ab.bz
variable {M:aO} {cap:Option Nat} {N N2:Nat}
theorem SE (C:CJ M N){v:AV}{q:Rat}(hv:bm v q)(lq:Bq N q):∃v0,bm v0 (-q)/\cW M 199 [v] v0:=by
 obtain⟨v0,h0,hr⟩:=Sq C hv lq.1
 exact⟨v0,h0,hr⟩
structure CU (M:aO)(N N2:Nat):Prop extends AW M N N2 where
 HE:∀v q,bm v q->Bq N q->∃v0,bm v0 (-q)/\∀h,M.ext 199 [v] h=some ⟨v0,h,[]⟩
 HF:∀v q,bm v q->Bq N q->q≠0->∃v0,bm v0 q⁻¹/\∀h,M.ext 200 [v] h=some ⟨v0,h,[]⟩
 HG:∀a b p q,bm a p->bm b q->Bq N p->Bq N q->∃v0,bm v0 (p+q)/\∀h,M.ext 151 [a,b] h=some ⟨v0,h,[]⟩
 HH:∀a b p q,bm a p->bm b q->Bq N p->Bq N q->∃v0,bm v0 (p*q)/\∀h,M.ext 152 [a,b] h=some ⟨v0,h,[]⟩
theorem Bq.neg {q:Rat}(h:Bq N q):Bq N (-q):=⟨by rw[Rat.neg_num,jU];exact h.1,h.2⟩
theorem SF (C:CS M N N2){v:AV}{q:Rat}(hv:bm v q)(lq:Bq N q)(h0:q≠0):∃v0,bm v0 q⁻¹/\cW M 200 [v] v0:=by
 obtain⟨s1,w1,s2,w2,rfl,h1,h2⟩:=hv
 have dq:=den_pos (q:=q)
 have hN:=C.hN
 have hle:=gZ (b:=wB) (by decide) (m:=N) (n:=N2) (by omega)
 obtain⟨v0,k0,q203⟩:=C.vd _ _ _ _ h2 h1 (by rw[cQ (by omega)];exact Int.lt_of_lt_of_le lq.2 hle) (Int.lt_of_lt_of_le lq.1 hle) (fun e=>h0 (Rat.num_eq_zero.1 e))
 rw[←Rat.inv_def]at k0
 refine⟨v0,k0,cT (by rw[C.ft];exact Sh) (by simp) ?_⟩
 have out:=fun hh=>k0.out (hh:=hh)
 obtain⟨s5,w5,s6,w6,rfl,h5,h6⟩:=k0
 obtain⟨o5,_⟩:=h5.one
 obtain⟨o6,_⟩:=h6.one
 unfold Ht
 simp only[enter]
 repeat' first|(apply WO.ay;rfl;rfl;first|exact q203 _)|(apply WO.cJ;rfl;rfl;rfl;exact⟨rfl,Nat.le_refl _,by simp[overwrite,dx,eE,o5,o6]⟩;rfl)|apply W.seq|apply ab|apply W.region|apply WO.nil|apply W.ret|(apply WO.aT;rfl;rfl;rfl)|(apply WO.aX;rfl;rfl;rfl)|(apply WO.pl;rfl;rfl)
 all_goals exact cw rfl rfl (out _)
theorem SG (C:CU M N N2){a b:AV}{p q:Rat}(ha:bm a p)(hb:bm b q)(lp:Bq N p)(lq:Bq N q):∃v0,bm v0 (p-q)/\cW M 149 [a,b] v0:=by
 obtain⟨v1,k1,q199⟩:=C.HE b q hb lq
 obtain⟨v0,k0,q151⟩:=C.HG a v1 p _ ha k1 lp lq.neg
 rw[←Rat.sub_eq_add_neg]at k0
 refine⟨v0,k0,cT (by rw[C.ft];exact Sj) (by simp) ?_⟩
 have out:=fun hh=>k0.out (hh:=hh)
 obtain⟨s1,w1,s2,w2,rfl,h1,h2⟩:=ha
 obtain⟨s3,w3,s4,w4,rfl,h3,h4⟩:=hb
 obtain⟨s5,w5,s6,w6,rfl,h5,h6⟩:=k0
 obtain⟨o5,_⟩:=h5.one
 obtain⟨o6,_⟩:=h6.one
 unfold Hw
 simp only[enter]
 repeat' first|(apply WD.dL;rfl;rfl;(first|(simp only[nca];rfl)|rfl);first|exact q199 _|exact q151 _)|(apply WO.cJ;rfl;rfl;rfl;exact⟨rfl,Nat.le_refl _,by simp[overwrite,dx,eE,o5,o6]⟩;rfl)|apply W.seq|apply ab|apply W.region|apply WO.nil|apply W.ret|apply W.draw|apply WD.nil|(apply WD.dc;rfl;rfl;(first|(simp only[nca];rfl)|rfl))|(apply WD.eh;rfl;(first|(simp only[nca];rfl)|rfl);(first|(simp only[nca];rfl)|rfl))|(apply WO.aT;rfl;rfl;rfl)|(apply WO.aX;rfl;rfl;rfl)
 all_goals exact cw rfl rfl (out _)
theorem SH (C:CU M N N2){a b:AV}{p q:Rat}(ha:bm a p)(hb:bm b q)(lp:Bq N p)(lq:Bq N q)(li:Bq N q⁻¹)(h0:q≠0):∃v0,bm v0 (p*q⁻¹)/\cW M 150 [a,b] v0:=by
 obtain⟨v1,k1,q200⟩:=C.HF b q hb lq h0
 obtain⟨v0,k0,q152⟩:=C.HH a v1 p _ ha k1 lp li
 refine⟨v0,k0,cT (by rw[C.ft];exact Sm) (by simp) ?_⟩
 have out:=fun hh=>k0.out (hh:=hh)
 obtain⟨s1,w1,s2,w2,rfl,h1,h2⟩:=ha
 obtain⟨s3,w3,s4,w4,rfl,h3,h4⟩:=hb
 obtain⟨s5,w5,s6,w6,rfl,h5,h6⟩:=k0
 obtain⟨o5,_⟩:=h5.one
 obtain⟨o6,_⟩:=h6.one
 unfold Hy
 simp only[enter]
 repeat' first|(apply WD.dL;rfl;rfl;(first|(simp only[nca];rfl)|rfl);first|exact q200 _|exact q152 _)|(apply WO.cJ;rfl;rfl;rfl;exact⟨rfl,Nat.le_refl _,by simp[overwrite,dx,eE,o5,o6]⟩;rfl)|apply W.seq|apply ab|apply W.region|apply WO.nil|apply W.ret|apply W.draw|apply WD.nil|(apply WD.dc;rfl;rfl;(first|(simp only[nca];rfl)|rfl))|(apply WD.eh;rfl;(first|(simp only[nca];rfl)|rfl);(first|(simp only[nca];rfl)|rfl))|(apply WO.aT;rfl;rfl;rfl)|(apply WO.aX;rfl;rfl;rfl)
 all_goals exact cw rfl rfl (out _)
theorem SI (C:CS M N N2){a b:AV}{p q:Rat}(ha:bm a p)(hb:bm b q)(lp:Bq N p)(lq:Bq N q):cW M 148 [a,b] (.iV (bD (p.num*q.den-q.num*p.den))):=by
 obtain⟨s1,w1,s2,w2,rfl,h1,h2⟩:=ha
 obtain⟨s3,w3,s4,w4,rfl,h3,h4⟩:=hb
 have dp:=den_pos (q:=p)
 have dq:=den_pos (q:=q)
 have hdp:an (p.den:Int)<wB^N:=by rw[cQ (by omega)];exact lp.2
 have hdq:an (q.den:Int)<wB^N:=by rw[cQ (by omega)];exact lq.2
 obtain⟨v1,k1,q198a⟩:=C.jz _ _ _ _ h1 h4 lp.1 hdq
 obtain⟨v2,k2,q198b⟩:=C.jz _ _ _ _ h3 h2 lq.1 hdp
 have q167:=C.eC.AS v1 v2 _ _ k1 k2 (C.nz lp.1 hdq) (C.nz lq.1 hdp)
 refine cT (by rw[C.ft];exact Sn) (by simp) ?_
 unfold Hz
 simp only[enter]
 repeat' first|(apply WD.dL;rfl;rfl;(first|(simp only[nca];rfl)|rfl);first|exact q198a _|exact q198b _|exact q167 _)|apply W.seq|apply ab|apply W.region|apply WO.nil|apply W.ret|apply W.draw|apply WD.nil|(apply WD.dE;rfl)|(apply WD.dc;rfl;rfl;(first|(simp only[nca];rfl)|rfl))|(apply WO.aT;rfl;rfl;rfl)|(apply WO.aX;rfl;rfl;rfl)|(apply WO.pl;rfl;rfl)|(apply WO.pp;rfl;rfl)
 all_goals exact cw rfl rfl (.same rfl rfl)
end Go.Ab.Ch1

/-
  Own work: integers of any size: binary digits, whole parts of fractions.
-/
namespace Go.Ab.Ch1
open Go.Ab.bz
variable {M:aO} {cap:Option Nat} {N N2:Nat}
theorem SJ (C:CS M N N2){v:AV}{q:Rat}(hv:bm v q)(lq:Bq N q):∃v0,aL v0 (q.num/q.den)/\cW M 160 [v] v0:=by
 obtain⟨s1,w1,s2,w2,rfl,h1,h2⟩:=hv
 have dq:=den_pos (q:=q)
 have hdq:an (q.den:Int)<wB^N:=by rw[cQ (by omega)];exact lq.2
 obtain⟨v0,r,k0,kr,q205⟩:=C.rR _ _ _ _ h1 h2 lq.1 hdq dq
 refine⟨v0,k0,cT (by rw[C.ft];exact So) (by simp) ?_⟩
 have out:=fun hh=>k0.out (hh:=hh)
 obtain⟨s5,w5,rfl,o5,_⟩:=k0.shape
 obtain⟨s6,w6,rfl,o6,_⟩:=kr.shape
 unfold HA
 simp only[enter]
 repeat' first|(apply WO.ay;rfl;rfl;first|exact q205 _)|(apply WO.cJ;rfl;rfl;rfl;exact⟨rfl,Nat.le_refl _,by simp[overwrite,dx,eE,o5,o6]⟩;rfl)|apply W.seq|apply ab|apply W.region|apply WO.nil|apply W.ret|(apply WO.aT;rfl;rfl;rfl)|(apply WO.aX;rfl;rfl;rfl)|(apply WO.pl;rfl;rfl)
 all_goals exact cw rfl rfl (out _)
theorem SK {l:List Int}(ok:okW wB l)(nr:aR l)(h0:l≠[]):cd (WV wB l)=64*(l.length-1)+cd l[l.length-1]! := by
 have hl:0<l.length:=List.length_pos_iff.2 h0
 obtain⟨n,hn⟩:∃n,l.length=n+1:=⟨l.length-1,by omega⟩
 have t0:=kC nr hl
 rw[hn,show n+1-1=n by omega]at t0 ⊢
 have gt:=bZ ok (i:=n) (by omega)
 have gt:0<=l[n]! /\ l[n]! < 18446744073709551616:=gt
 obtain⟨s1,s2,s3⟩:=pB (x:=l[n]!) (by omega)
 obtain⟨t,ht⟩:∃t,t=l[n]! := ⟨_,rfl⟩
 have e0:=iK (b:=wB) (l:=l) (n:=n) (by omega)
 rw[←ht]at t0 gt s1 s2 s3 e0 ⊢
 obtain⟨k,hk⟩:∃k,cd t=k+1:=⟨cd t-1,by omega⟩
 rw[hk]at s2 s3 ⊢
 rw[show k+1-1=k by omega]at s2
 have l0:=cO (b:=wB) (by decide) (de ok n)
 have l1:=dN (b:=wB) (by decide) (de ok n)
 rw[List.length_take,Nat.min_eq_left (by omega)]at l1
 have hP:0<wB^n:=Int.pow_pos (by decide)
 have eP:wB^n=2^(64*n):=by rw[Int.pow_mul];rfl
 have m1:=Int.mul_le_mul_of_nonneg_left s2 (Int.le_of_lt hP)
 have m2:=Int.mul_le_mul_of_nonneg_left (show t+1<=2^(k+1) by omega) (Int.le_of_lt hP)
 rw[Int.mul_add,Int.mul_one]at m2
 refine GK (n:=64*n+k) ⟨?_,?_⟩
 . rw[Int.pow_add,←eP,e0];omega
 . rw[show 64*n+k+1=64*n+(k+1) by omega,Int.pow_add,←eP,e0];omega
theorem SL (C:CI M N)(pC:∀(x:Int) h,(0<=x/\x<18446744073709551616)->M.ext 240 [.uV x] h=some ⟨.iV (cd x),h,[]⟩){v:AV}{z:Int}(hv:aL v z)(lz:an z<wB^N):cW M 262 [v] (.iV (cd (an z))):=by
 obtain⟨x,l,hx,ok,nr,hl,q246⟩:=C.jT v z hv
 have len:=C.len ok nr hl lz
 obtain⟨s,w,rfl,o,_⟩:=hv.shape
 refine cT (by rw[C.ft];exact Sd) (by simp) ?_
 rw[←hl]
 unfold Ho
 simp only[enter]
 rcases hx with rfl|⟨rfl,rfl⟩
 . by_cases h0:l.length=0
   . have e:cd (WV wB l)=0:=by rw[List.eq_nil_of_length_eq_zero h0];rfl
     rw[e]
     repeat' first|apply W.seq|apply ab|apply W.region|apply WO.nil|apply W.ret|apply ba|(apply W.ax;rfl)|(apply WO.eql;rfl;rfl)|(apply WO.ay;rfl;rfl;first|exact q246 _)|(apply WO.aT;rfl;rfl;rfl)|(apply WO.aX;rfl;rfl;rfl)|(apply WO.pl;rfl;rfl)|(apply WO.pp;rfl;rfl)|(intro _;omega)|intro _
     all_goals try omega
     all_goals exact cw rfl rfl (.same rfl rfl)
   . have hne:l≠[]:=fun e=>h0 (by rw[e];rfl)
     have gt:=bZ ok (i:=((l.length:Int)-1).toNat) (by omega)
     have q240:=fun h=>pC l[((l.length:Int)-1).toNat]! h gt
     have e:=SK ok nr hne
     have hb:=nt (x:=l[((l.length:Int)-1).toNat]!) (n:=64) (by have:=gt.2;exact this) gt.1
     rw[show l.length-1=((l.length:Int)-1).toNat by omega]at e
     obtain⟨t,ht⟩:∃t,t=cd l[((l.length:Int)-1).toNat]! := ⟨_,rfl⟩
     rw[←ht]at q240 e hb
     have e2:(64*((l.length:Int)-1)+(t:Int))=((cd (WV wB l):Nat):Int):=by rw[e];omega
     rw[←e2]
     repeat' first|apply W.seq|apply ab|apply W.region|apply WO.nil|apply W.ret|apply W.skip|(apply W.aw;rfl)|(apply WO.eql;rfl;rfl)|(apply WO.add;rfl;rfl;omega)|(apply WO.sub;rfl;rfl;omega)|(apply WO.mul;rfl;rfl;omega)|(apply WO.ay;rfl;rfl;first|exact q246 _|exact q240 _)|(apply WO.cM;rfl;rfl;omega)|(apply WO.dV;rfl;exact fun _=>rfl;(first|omega|(simp only[List.length_set];omega)|(simp;omega));decide;rfl;case ia=>infer_instance)|(apply WO.aT;rfl;rfl;rfl)|(apply WO.aX;rfl;rfl;rfl)|(apply WO.pl;rfl;rfl)|(apply WO.pp;rfl;rfl)|(intro _;omega)|intro _
     all_goals try omega
     all_goals exact cw rfl rfl (.same rfl rfl)
 . have e:cd (WV wB [])=0:=rfl
   rw[e]
   repeat' first|apply W.seq|apply ab|apply W.region|apply WO.nil|apply W.ret|apply ba|(apply W.ax;rfl)|(apply WO.eql;rfl;rfl)|(apply WO.ay;rfl;rfl;first|exact q246 _)|(apply WO.aT;rfl;rfl;rfl)|(apply WO.aX;rfl;rfl;rfl)|(apply WO.pl;rfl;rfl)|(apply WO.pp;rfl;rfl)|(intro _;omega)|intro _
   all_goals try omega
   all_goals exact cw rfl rfl (.same rfl rfl)
end Go.Ab.Ch1

/-
  Own work: integers of any size: powers.
-/
namespace Go.Ab.Ch1
open Go.Ab.bz
variable {M:aO} {cap:Option Nat} {N N2:Nat}
section
variable {t:Nat} {x y:aN} {l:List aU} {pe:List AV} {lo:List (Nat×AV)} {hp:ae} {df wr:List Nat} {a:Int} {k:IntKind} {Q:aq->Prop}
theorem WO.AX (hx:(St.mk pe lo hp df).aa x=some (.iV a))
 (h:WO M l ⟨⟨pe,(t,.iV (a/2))::lo,hp,df⟩,wr⟩ Q):WO M (⟨.l t,.bin .shr x (.c (.int k 1)),none⟩::l) ⟨⟨pe,lo,hp,df⟩,wr⟩ Q:=by
 refine WO.op (WP.pure (v:=.iV (a/2)) rfl ?_ h)
 have:a.fdiv (2^min (Int.toNat 1) IntKind.i64.bits)=a/2:=by
  show a.fdiv 2=a/2
  rw[Int.fdiv_eq_ediv_of_nonneg _ (by omega)]
 have e:(St.mk pe lo hp df).aa (.c (.int k 1))=some (.int k 1):=rfl
 simp only[aV,hx,e,cE,this]
 rfl
theorem WO.AY (hx:(St.mk pe lo hp df).aa x=some (.iV a))(hy:(St.mk pe lo hp df).aa y=some (.iV 1))(ha:0<=a/\a<9223372036854775808)
 (h:WO M l ⟨⟨pe,(t,.iV (a%2))::lo,hp,df⟩,wr⟩ Q):WO M (⟨.l t,.bin .and x y,none⟩::l) ⟨⟨pe,lo,hp,df⟩,wr⟩ Q:=by
 refine WO.pl (v:=.iV (a%2)) ?_ rfl h
 obtain⟨n,rfl⟩:=Int.eq_ofNat_of_zero_le ha.1
 have e:(BitVec.ofInt 64 (n:Int) &&& BitVec.ofInt 64 1).toNat=n%2:=by
  rw[pn,show (1:Int)=((1:Nat):Int) from rfl,pn,BitVec.toNat_and,BitVec.toNat_ofNat,BitVec.toNat_ofNat,Nat.mod_eq_of_lt (show n<2^64 by omega),Nat.mod_eq_of_lt (show 1<2^64 by decide)]
  exact Nat.and_two_pow_sub_one_eq_mod n 1
 simp only[aV,hx,hy,cE,if_true]
 show some (AV.iV (IntKind.i64.wrap ((BitVec.ofInt 64 (n:Int) &&& BitVec.ofInt 64 1).toNat:Int)))=_
 rw[e,mU (by omega)]
 rfl
end
def rV (s so:Int)(w wo:AV):ae:=[some (.cells [.iV s,w] 131),some (.cells [.iV 0,.ah] 131),some (.cells [.iV so,wo] 131)]
theorem SM (C:CF M N){A:Int}{K:Nat}(hK:K<1000000)(hB:∀i,i<=K->an (A^i)<wB^N){Q:Ex->aq->Prop}(a0:AV)
 (hQ:∀s so w wo p1 lo wr,aL (.agg [.iV so,wo]) (A^K)->Q (.exit 0) ⟨⟨[a0,p1,.ptr 0 0,.ptr 1 0,.ptr 2 0],lo,rV s so w wo,[]⟩,wr⟩)
 (s so:Int) (w wo:AV) (lo:List (Nat×AV)) (wr:List Nat) (hs:aL (.agg [.iV s,w]) A) (ho:aL (.agg [.iV so,wo]) 1) :
 W M (.loop pM) ⟨⟨[a0,.iV K,.ptr 0 0,.ptr 1 0,.ptr 2 0],lo,rV s so w wo,[]⟩,wr⟩ Q:=by
 refine W.ij (fun m st=>∃s so w wo kv lo wr i j,st=⟨⟨[a0,.iV kv,.ptr 0 0,.ptr 1 0,.ptr 2 0],lo,rV s so w wo,[]⟩,wr⟩/\kv=(m:Int)/\aL (.agg [.iV s,w]) (A^i)/\aL (.agg [.iV so,wo]) (A^j)/\j+i*m=K/\m<=K)
  (fun m st ⟨s,so,w,wo,kv,lo,wr,i,j,hst,hkv,hs,ho,hj,hmK⟩=>?_) (m:=K) ⟨s,so,w,wo,_,lo,wr,1,0,rfl,rfl,by rw[Int.pow_one];exact hs,by rw[Int.pow_zero];exact ho,by omega,Nat.le_refl _⟩
 subst hst
 subst hkv
 by_cases h0:m=0
 . subst h0
   have ej:j=K:=by omega
   subst ej
   unfold pM
   repeat' first|apply W.seq|apply ab|apply W.region|apply WO.nil|apply W.exit|apply cj|apply eA|(apply W.aw;rfl)|(apply WO.gtr;rfl;rfl)|(apply WO.pl;rfl;rfl)|(intro _;omega)|intro _
   all_goals try omega
   exact hQ _ _ _ _ _ _ _ ho
 . obtain⟨q,b,hqb,hb⟩:∃q b:Nat,m=2*q+b/\b<2:=⟨m/2,m%2,by omega,by omega⟩
   have him:i*m=2*(i*q)+i*b:=by rw[hqb,Nat.mul_add,←Nat.mul_assoc,Nat.mul_comm i 2,Nat.mul_assoc]
   have hdiv:(m:Int)/2=(q:Int):=by omega
   have hmod:(m:Int)%2=(b:Int):=by omega
   have hi:i<=K:=by
    have:i*1<=i*m:=Nat.mul_le_mul_left i (by omega)
    omega
   have hjK:j<=K:=by omega
   obtain⟨o1,_⟩:=hs.one
   obtain⟨o2,_⟩:=ho.one
   have fin:∀s so w wo lo wr i' j',aL (.agg [.iV s,w]) (A^i')->aL (.agg [.iV so,wo]) (A^j')->j'+i'*q=K->LI (fun st=>∃m',m'<m/\∃s so w wo kv lo wr i j,st=⟨⟨[a0,.iV kv,.ptr 0 0,.ptr 1 0,.ptr 2 0],lo,rV s so w wo,[]⟩,wr⟩/\kv=(m':Int)/\aL (.agg [.iV s,w]) (A^i)/\aL (.agg [.iV so,wo]) (A^j)/\j+i*m'=K/\m'<=K) Q .normal ⟨⟨[a0,.iV ((m:Int)/2),.ptr 0 0,.ptr 1 0,.ptr 2 0],lo,rV s so w wo,[]⟩,wr⟩:=fun s so w wo lo wr i' j' h1 h2 h3=>
    ek ⟨q,by omega,s,so,w,wo,_,lo,wr,i',j',rfl,hdiv,h1,h2,h3,by omega⟩
   have sq:q≠0->∃v,aL v (A^(i+i))/\∀h,M.ext 198 [.agg [.iV s,w],.agg [.iV s,w]] h=some ⟨v,h,[]⟩:=fun hq=>by
    obtain⟨v,h1,h2⟩:=C.jz _ _ _ _ hs hs (hB i hi) (hB i hi)
    exact⟨v,by rw[Int.pow_add];exact h1,h2⟩
   by_cases hodd:b=1
   . subst hodd
     obtain⟨v1,h1,q1⟩:=C.jz _ _ _ _ ho hs (hB j hjK) (hB i hi)
     have h1:aL v1 (A^(j+i)):=by rw[Int.pow_add];exact h1
     obtain⟨s1,w1,rfl,o3,_⟩:=h1.shape
     by_cases hq:q=0
     . subst hq
       unfold pM
       repeat' first|(apply WO.AY;rfl;rfl;omega)|(apply WO.AX;rfl)|(apply WO.cJ;rfl;rfl;rfl;exact⟨rfl,Nat.le_refl _,by simp[overwrite,dx,eE,o3]⟩;rfl)|apply W.seq|apply ab|apply W.region|apply WO.nil|apply W.block|apply W.skip|apply bK|(apply W.ax;rfl)|(apply W.aw;rfl)|(apply WO.gtr;rfl;rfl)|(apply WO.eql;rfl;rfl)|(apply WO.ay;rfl;rfl;first|exact q1 _)|(apply WO.aT;rfl;rfl;rfl)|(apply WO.pl;rfl;rfl)|(apply WO.pp;rfl;rfl)|(intro _;omega)|intro _
       all_goals try omega
       all_goals exact fin s s1 w w1 _ _ i (j+i) hs h1 (by omega)
     . obtain⟨v2,h2,q2⟩:=sq hq
       obtain⟨s2,w2,rfl,o4,_⟩:=h2.shape
       unfold pM
       repeat' first|(apply WO.AY;rfl;rfl;omega)|(apply WO.AX;rfl)|(apply WO.cJ;rfl;rfl;rfl;exact⟨rfl,Nat.le_refl _,by simp[overwrite,dx,eE,o3,o4]⟩;rfl)|apply W.seq|apply ab|apply W.region|apply WO.nil|apply W.block|apply W.skip|apply bK|(apply W.ax;rfl)|(apply WO.gtr;rfl;rfl)|(apply WO.eql;rfl;rfl)|(apply WO.ay;rfl;rfl;first|exact q1 _|exact q2 _)|(apply WO.aT;rfl;rfl;rfl)|(apply WO.pl;rfl;rfl)|(apply WO.pp;rfl;rfl)|(intro _;omega)|intro _
       all_goals try omega
       all_goals exact fin s2 s1 w2 w1 _ _ (i+i) (j+i) h2 h1 (by rw[Nat.add_mul];omega)
   . obtain⟨v2,h2,q2⟩:=sq (by omega)
     obtain⟨s2,w2,rfl,o4,_⟩:=h2.shape
     have hb0:b=0:=by omega
     subst hb0
     unfold pM
     repeat' first|(apply WO.AY;rfl;rfl;omega)|(apply WO.AX;rfl)|(apply WO.cJ;rfl;rfl;rfl;exact⟨rfl,Nat.le_refl _,by simp[overwrite,dx,eE,o4]⟩;rfl)|apply W.seq|apply ab|apply W.region|apply WO.nil|apply W.block|apply W.skip|apply bK|(apply W.ax;rfl)|(apply W.aw;rfl)|(apply WO.gtr;rfl;rfl)|(apply WO.eql;rfl;rfl)|(apply WO.ay;rfl;rfl;first|exact q2 _)|(apply WO.aT;rfl;rfl;rfl)|(apply WO.pl;rfl;rfl)|(apply WO.pp;rfl;rfl)|(intro _;omega)|intro _
     all_goals try omega
     all_goals exact fin s2 so w2 wo _ _ (i+i) j h2 ho (by rw[Nat.add_mul];omega)
theorem SN (C:CF M N){v:AV}{A:Int}{K:Nat}(hv:aL v A)(hK:K<1000000)(hB:∀i,i<=K->an (A^i)<wB^N):∃v0,aL v0 (A^K)/\cW M 215 [v,.iV K] v0:=by
 have q168:=C.ny 1
 obtain⟨s,w,rfl,o1,_⟩:=hv.shape
 obtain⟨v',hh,⟨v0,h0,ho⟩,hr⟩:=iF (M:=M) (f:=215) (ars:=[.agg [.iV s,w],.iV K]) (P:=fun v hh=>∃v0,aL v0 (A^K)/\fU v hh v0) (by rw[C.ft];exact Se) (by simp) (by
  unfold Hp
  simp only[enter]
  repeat' first|apply W.seq|apply ab|apply W.region|apply WO.nil|apply W.block|(apply WO.ay;rfl;rfl;first|exact q168 _)|(apply WO.aX;rfl;rfl;rfl)|(apply WO.fA;rfl;rfl;rfl)
  refine SM C hK hB _ (fun s so w wo p1 lo wr hg=>?_) s 1 w .ah _ _ hv (.small (by decide))
  obtain⟨o5,_⟩:=hg.one
  repeat' first|(apply WO.cJ;rfl;rfl;rfl;exact⟨rfl,Nat.le_refl _,by simp[overwrite,dx,o5]⟩;rfl)|apply W.seq|apply ab|apply W.region|apply WO.nil|apply W.ret|apply cg|(apply WO.aT;rfl;rfl;rfl)
  exact⟨.inr rfl,rfl,_,rfl,_,hg,hg.out⟩)
 exact⟨v0,h0,v',hh,ho,hr⟩
end Go.Ab.Ch1

/-
  Own work: runs of integers' operations as contracts.
-/
namespace Go.Ab.Ch1
open Go.Ab.bz
variable {P:Program} {T:List (Nat×Spec)} {g:Nat}
theorem cW.runK {ars:List AV}{v0:AV}(h:cW (bw P FT T) g ars v0)(ht:br ars=0):zH P FT T g ars v0:=by
 obtain⟨v,hh,⟨v1,h1,h2,h3⟩,hr⟩:=h
 exact⟨v,hh,v1,hr,h1,ht,h2,h3⟩
theorem cW.eq {ars:List AV}{v0:AV}{hp:ae}(h:cW (bw P FT T) g ars v0)(ht:br ars=0):ph P FT T g ars hp=some ⟨v0,hp,[]⟩:=ur (h.runK ht)
theorem pA.eq {ars as0:List AV}{z:Int}(h:pA (bw P FT T) g as0 z):∃r,okW wB r/\aR r/\WV wB r=z/\∀hp,fJ hp ars as0->ru P FT T g ars hp=some ⟨.vs (aj r) r.length none,hp,[]⟩:=by
 obtain⟨r,⟨h1,h2,h3⟩,v,hh,⟨v1,f,t,c⟩,hr⟩:=h
 exact⟨r,h1,h2,h3,fun hp hf=>ry hf ⟨v,hh,v1,hr,f,t,c⟩⟩
theorem rL.eq {ars:List AV}{x y:Int}(h:rL (bw P FT T) g ars x y)(ht:br ars=0):∃qv q rv r,cV qv q/\cV rv r/\okW wB q/\aR q/\okW wB r/\aR r/\WV wB q=x/y/\WV wB r=x%y/\∀hp,ph P FT T g ars hp=some ⟨.ao [qv,rv],hp,[]⟩:=by
 obtain⟨q,r,⟨h1,h2,h3⟩,⟨h4,h5,h6⟩,v,hh,⟨v1,qv,rv,f,t,c,k1,k2⟩,hr⟩:=h
 exact⟨qv,q,rv,r,k1,k2,h1,h2,h4,h5,h3,h6,fun hp=>ur ⟨v,hh,v1,hr,f,ht,t,c⟩⟩
theorem cV.top {x:AV}{l:List Int}(h:cV x l):x.top=0:=by
 rcases h with rfl|⟨rfl,rfl⟩
 . exact fN l
 . rfl
theorem aL.top {v:AV}{z:Int}(h:aL v z):v.top=0:=by
 obtain⟨s,w,rfl,_,t,_⟩:=h.shape
 simp[AV.top,br,t]
theorem bm.top {v:AV}{q:Rat}(h:bm v q):v.top=0:=by
 obtain⟨s,w,s',w',rfl,h1,h2⟩:=h
 have t1:=h1.one.2.1
 have t2:=h2.one.2.1
 simp[AV.top,br,t1,t2]
end Go.Ab.Ch1

/-
  Own work: the contracts of words, integers and fractions as tables.
-/
namespace Go.Ab.Ch1
open Go.Proofs Go.Ab.bz
variable {T:List (Nat×Spec)}
noncomputable abbrev sK (T:List (Nat×Spec))(g:Nat):Spec:=ph Tryz.prog FT T g
noncomputable abbrev sL (T:List (Nat×Spec))(g:Nat):Spec:=ru Tryz.prog FT T g
theorem bC {g:Nat}(hT:cm Tryz.prog gl (bk T)):aW Tryz.prog gl g (sK T g):=Ps po hT
theorem jV {g:Nat}(hT:cm Tryz.prog gl (bk T)):aW Tryz.prog gl g (sL T g):=Pq po hT
theorem hZ {v:AV}(h:v.top=0):br [v]=0:=by simp[br,h]
theorem fV {v w:AV}(h:v.top=0)(k:w.top=0):br [v,w]=0:=by simp[br,h,k]
theorem dQ {ars:List AV}{v0:AV}{g:Nat}(h:cW (bw Tryz.prog FT T) g ars v0)(ht:br ars=0):∀hp,sK T g ars hp=some ⟨v0,hp,[]⟩:=fun _=>h.eq ht
def HI:List (Nat×Spec):=[(275,lH .oI),(277,lH .oJ)]
theorem SO:cm Tryz.prog gl (bk HI):=aS (ug Gd) (aS (ug Ge) bR)
structure AZ (T:List (Nat×Spec)):Prop where
 SP:∀ar h,bk T 275 ar h=lH .oI ar h
 SR:∀ar h,bk T 277 ar h=lH .oJ ar h
 uQ:∀ar h,bk T 276 ar h=none
theorem AZ.c (E:AZ T):lO (bw Tryz.prog FT T) where
 ft:=bP
 uQ:=E.uQ
 lQ x y c h hx hy h0 h1:=by
  refine(E.SP _ _).trans ?_
  show Option.map _ (if _ then _ else _)=_
  rw[if_pos ⟨hx,hy,h0,h1⟩]
  rfl
 uR x y c h hx hx1 hy hy1 h0 h1:=by
  refine(E.SR _ _).trans ?_
  show Option.map _ (if _ then _ else _)=_
  rw[if_pos ⟨hx,hy,h0,h1⟩]
  have e1:(((x.toNat+18446744073709551616-y.toNat-c.toNat)%18446744073709551616:Nat):Int)=(x-y-c)%18446744073709551616:=by omega
  have e2:((if x.toNat<y.toNat+c.toNat then 1 else 0:Nat):Int)=if x<y+c then 1 else 0:=by
   by_cases hc:x<y+c
   . rw[if_pos hc,if_pos (by omega)];rfl
   . rw[if_neg hc,if_neg (by omega)];rfl
  show some (HR.mk (.ao [.uV _,.uV _]) h [])=_
  rw[e1,e2]
noncomputable def me:Spec:=sK [] 244
theorem Ba:aW Tryz.prog gl 244 me:=bC bR
theorem Bb:∀(x y:Int) h,(0<=x/\x<18446744073709551616)->(0<=y/\y<18446744073709551616)->me [.uV x,.uV y] h=some ⟨.ao [.uV (x*y/18446744073709551616),.uV (x*y%18446744073709551616)],h,[]⟩:=fun x y h hx hy=>cz (QH bP x y hx hy) rfl rfl rfl h
noncomputable def pN:List (Nat×Spec):=(244,me)::HI
theorem vh:cm Tryz.prog gl (bk pN):=aS Ba SO
structure vi (T:List (Nat×Spec)):Prop extends AZ T where
 Bc:∀ar h,bk T 244 ar h=me ar h
theorem vi.c (E:vi T):lS (bw Tryz.prog FT T):={ E.toAZ.c with nq:=fun x y h hx hy=>(E.Bc _ _).trans (Bb x y h hx hy) }
theorem Be:vi pN:=by repeat' first|exact fun _ _=>rfl|constructor
noncomputable def rW:Spec:=sK [] 240
theorem Bf:aW Tryz.prog gl 240 rW:=bC bR
theorem Bg:∀(x:Int) h,(0<=x/\x<18446744073709551616)->rW [.uV x] h=some ⟨.iV (cd x),h,[]⟩:=fun x h hx=>cz (QV bP x hx) rfl rfl rfl h
noncomputable def HJ:List (Nat×Spec):=[(240,rW)]
noncomputable def rX:Spec:=sK HJ 279
theorem HK:aW Tryz.prog gl 279 rX:=bC (aS Bf bR)
theorem HL:∀(y:Int) h,(0<=y/\y<18446744073709551616)->rX [.uV y] h=some ⟨.iV (64-cd y:Nat),h,[]⟩:=fun x h hx=>cz (QW (M:=bw Tryz.prog FT HJ) bP x hx fun h=>Bg x h hx) rfl rfl rfl h
noncomputable def HM:List (Nat×Spec):=[(279,rX)]
noncomputable def vj:Spec:=sK HM 278
theorem SS:aW Tryz.prog gl 278 vj:=bC (aS HK bR)
theorem SU:∀(hi lo y:Int) h,(0<y/\y<18446744073709551616)->(0<=hi/\hi<y)->(0<=lo/\lo<18446744073709551616)->vj [.uV hi,.uV lo,.uV y] h=some ⟨.ao [.uV ((hi*18446744073709551616+lo)/y),.uV ((hi*18446744073709551616+lo)%y)],h,[]⟩:=fun hi lo y h hy hh hl=>
 cz (Ra (M:=bw Tryz.prog FT HM) bP hi lo y hy hh hl fun h=>HL y h ⟨by omega,hy.2⟩) rfl rfl rfl h
noncomputable def vk:Spec:=sL pN 249
noncomputable def vn:Spec:=sL pN 251
noncomputable def vo:Spec:=sL pN 248
noncomputable def nC:Spec:=sL [] 250
theorem SV:aW Tryz.prog gl 249 vk:=jV vh
theorem SW:aW Tryz.prog gl 251 vn:=jV vh
theorem SX:aW Tryz.prog gl 248 vo:=jV vh
theorem HN:aW Tryz.prog gl 250 nC:=jV bR
theorem SY:∀x l y m,cV x l->cV y m->okW wB l->okW wB m->l.length<=500000->m.length<=500000->∃r,okW wB r/\aR r/\WV wB r=WV wB l+WV wB m/\∀h,vk [x,y] h=some ⟨.vs (aj r) r.length none,h,[]⟩:=fun x l y m hx hy o1 o2 l1 l2=>by
 obtain⟨r,h1,h2,h3,h4⟩:=(QM (c1:=none) (c2:=none) Be.c.tolO l m o1 o2 (by omega) (by omega)).eq
 exact⟨r,h1,h2,h3,fun h=>h4 h (.cons hx.lZ (.cons hy.lZ .nil))⟩
theorem SZ:∀x l y m,cV x l->cV y m->okW wB l->okW wB m->aR l->aR m->l.length<=500000->m.length<=500000->WV wB m<=WV wB l->∃r,okW wB r/\aR r/\WV wB r=WV wB l-WV wB m/\∀h,vn [x,y] h=some ⟨.vs (aj r) r.length none,h,[]⟩:=fun x l y m hx hy o1 o2 n1 n2 l1 l2 hle=>by
 have hlen:m.length<=l.length:=by
  rcases Nat.lt_or_ge l.length m.length with h|h
  . have:=np (b:=wB) (by decide) o1 o2 n2 h
    omega
  . exact h
 obtain⟨r,h1,h2,h3,h4⟩:=(QO (c1:=none) (c2:=none) Be.c.tolO l m o1 o2 (by omega) hlen hle).eq
 exact⟨r,h1,h2,h3,fun h=>h4 h (.cons hx.lZ (.cons hy.lZ .nil))⟩
theorem Ta:∀x l y m,cV x l->cV y m->okW wB l->okW wB m->l.length<=500000->m.length<=500000->∃r,okW wB r/\aR r/\WV wB r=WV wB l*WV wB m/\∀h,vo [x,y] h=some ⟨.vs (aj r) r.length none,h,[]⟩:=fun x l y m hx hy o1 o2 l1 l2=>by
 obtain⟨r,h1,h2,h3,h4⟩:=(QQ (c1:=none) (c2:=none) Be.c l m o1 o2 (by omega) (by omega)).eq
 exact⟨r,h1,h2,h3,fun h=>h4 h (.cons hx.lZ (.cons hy.lZ .nil))⟩
theorem Bh {x y:AV}{l m:List Int}{c1 c2:Option Nat}{h:ae}(hx:dr h x (.vs (aj l) l.length c1))(hy:dr h y (.vs (aj m) m.length c2))(o1:okW wB l)(o2:okW wB m)(n1:aR l)(n2:aR m)(l1:l.length<1000000000)(l2:m.length<1000000000):nC [x,y] h=some ⟨.iV (bD (WV wB l-WV wB m)),h,[]⟩:=
 uu (QL bP l m o1 o2 n1 n2 l1 l2) rfl rfl rfl (.cons hx (.cons hy .nil))
theorem HO:∀x l y m,cV x l->cV y m->okW wB l->okW wB m->aR l->aR m->l.length<=500000->m.length<=500000->∀h,nC [x,y] h=some ⟨.iV (bD (WV wB l-WV wB m)),h,[]⟩:=fun x l y m hx hy o1 o2 n1 n2 l1 l2 h=>
 Bh hx.lZ hy.lZ o1 o2 n1 n2 (by omega) (by omega)
noncomputable def pO:List (Nat×Spec):=(278,vj)::(250,nC)::(279,rX)::pN
theorem Bi:cm Tryz.prog gl (bk pO):=aS SS (aS HN (aS HK vh))
structure Bj (T:List (Nat×Spec)):Prop extends vi T where
 Tb:∀ar h,bk T 278 ar h=vj ar h
 Bk:∀ar h,bk T 250 ar h=nC ar h
 Tc:∀ar h,bk T 279 ar h=rX ar h
 rK:∀ar h,bk T 280 ar h=none
 uX:∀ar h,bk T 281 ar h=none
theorem Bj.c (E:Bj T):AG (bw Tryz.prog FT T):={ E.tovi.c with
 AE:=fun hi lo y h h1 h2 h3=>(E.Tb _ _).trans (SU hi lo y h h1 h2 h3)
 pF:=fun a b c1 c2 h o1 o2 n1 n2 l1 l2=>(E.Bk _ _).trans (Bh (.nc (rM a)) (.nc (rM b)) o1 o2 n1 n2 l1 l2)
 rH:=fun y h hy=>(E.Tc _ _).trans (HL y h hy)
 rK:=E.rK
 uX:=E.uX }
theorem HP:Bj pO:=by repeat' first|exact fun _ _=>rfl|constructor
noncomputable def vt:Spec:=sK pO 253
theorem Td:aW Tryz.prog gl 253 vt:=bC Bi
theorem Te:∀x l y m,cV x l->cV y m->okW wB l->okW wB m->aR l->aR m->l.length<=500000->m.length<=500000->m≠[]->∃qv q rv r,cV qv q/\cV rv r/\okW wB q/\aR q/\okW wB r/\aR r/\WV wB q=WV wB l/WV wB m/\WV wB r=WV wB l%WV wB m/\∀h,vt [x,y] h=some ⟨.ao [qv,rv],h,[]⟩:=fun x l y m hx hy o1 o2 n1 n2 l1 l2 hm=>by
 have hy':y = .vs (aj m) m.length none:=by
  rcases hy with h|⟨_,h⟩
  . exact h
  . exact absurd h hm
 subst hy'
 rcases hx with rfl|⟨rfl,rfl⟩
 . exact(Rv HP.c l m o1 o2 n1 n2 (by omega) (by omega) hm).eq (fV (fN l) (fN m))
 . have hv:=(pz (b:=wB) (by decide) o2 n2).2 hm
   have q250:∀h,(bw Tryz.prog FT pO).ext 250 [.ah,.vs (aj m) m.length none] h=some ⟨.iV (-1),h,[]⟩:=fun h=>by
    have:=HO .ah [] _ m (.inr ⟨rfl,rfl⟩) (.inl rfl) o1 o2 n1 n2 l1 l2 h
    rw[show bD (WV wB []-WV wB m) = -1 from if_pos (by simp[WV];omega)]at this
    exact this
   exact(Rw bP m o2 n2 hm q250).eq (fV rfl (fN m))
def Tf (ar:List AV):Prop:=∃l c y,ar=[.vs (aj l) l.length c,y]/\WV wB l<1000000000000000000
noncomputable def pP:Spec:=rz Tf (zI Tryz.prog FT pO 253) (sL pO 253)
theorem Tg:aW Tryz.prog gl 253 pP:=Pw (Pu po Bi) (jV Bi)
theorem HQ {h:ae}{b:Nat}{a:AV}{e:TypeId}{cp:Option Nat}(ha:pd a=true)(hb:h.at b=some (.cells [a] e)):dr h (.sl b 0 1 1 cp) (.vs [a] 1 none):=
 .sl (m:=[a]) hb rfl rfl fun i x y hx hy=>by
  match i,hx,hy with
  | 0,hx,hy=>cases hx;cases hy;exact .atom ha
def eW:List Int:=[1000000000000000000]
theorem nD:okW wB eW/\aR eW/\WV wB eW=1000000000000000000:=⟨by intro x hx;rw[List.mem_singleton.1 hx];decide,(Aw (l:=eW) (by simp[eW])).2 (by simp[eW]),by decide⟩
theorem Th:∀(l:List Int) (b:Nat) c h,okW wB l->aR l->l.length<=500000->WV wB l<1000000000000000000->h.at b=some (.cells (aj [1000000000000000000]) 246)->pP [.vs (aj l) l.length none,.sl b 0 1 1 c] h=some ⟨.ao [.ah,.vs (aj l) l.length none],h,[]⟩:=fun l b c h ok nr hl hv hb=>by
 unfold pP
 rw[Px ⟨l,none,_,rfl,hv⟩]
 refine Pv (Rx bP l _ h ?_)
 have:=Bh (x:=.vs (aj l) l.length none) (y:=.sl b 0 1 1 c) (l:=l) (m:=eW) (c1:=none) (c2:=none) (h:=h) (.nc (rM l)) (HQ rfl hb) ok nD.1 nr nD.2.1 (by omega) (by decide)
 rw[nD.2.2,show bD (WV wB l-1000000000000000000) = -1 from if_pos (by omega)]at this
 exact this
theorem Ti:∀(l:List Int) (b:Nat) c h,okW wB l->aR l->l.length<=500000->¬WV wB l<1000000000000000000->h.at b=some (.cells (aj [1000000000000000000]) 246)->∃q r,okW wB q/\aR q/\okW wB r/\aR r/\WV wB q=WV wB l/1000000000000000000/\WV wB r=WV wB l%1000000000000000000/\pP [.vs (aj l) l.length none,.sl b 0 1 1 c] h=some ⟨.ao [.vs (aj q) q.length none,.vs (aj r) r.length none],h,[]⟩:=fun l b c h ok nr hl hv hb=>by
 obtain⟨q,r,⟨h1,h2,h3⟩,⟨h4,h5,h6⟩,v,hh,⟨v1,f,t,k⟩,hr⟩:=Rz (c1:=none) (c2:=none) HP.c l eW ok nD.1 nr nD.2.1 (by omega) rfl (by rw[nD.2.2];exact hv)
 rw[nD.2.2]at h3 h6
 refine⟨q,r,h1,h2,h4,h5,h3,h6,?_⟩
 unfold pP
 rw[Py]
 . exact ry (.cons (.nc (rM l)) (.cons (HQ rfl hb) .nil)) ⟨v,hh,v1,hr,f,t,k⟩
 . rintro⟨l',c',y,e,hlt⟩
   simp only[List.cons.injEq,AV.vs.injEq]at e
   have:=FM (f:=uC) (esz:=1) (fun _=>rfl) (fun a b hab=>by simpa[uC] using hab) e.1.2.1 e.1.1
   subst this
   exact hv hlt
noncomputable def rY:Spec:=sK [] 245
theorem HS:aW Tryz.prog gl 245 rY:=bC bR
theorem HT:∀s h,(-9223372036854775808<=s/\s<9223372036854775808)->rY [.iV s] h=some ⟨.uV (an s),h,[]⟩:=fun s h hs=>cz (RA bP s hs) rfl rfl rfl h
noncomputable def HU:List (Nat×Spec):=[(245,rY)]
noncomputable def vu:Spec:=sK HU 246
theorem Tj:aW Tryz.prog gl 246 vu:=bC (aS HS bR)
theorem Tk:∀v z,aL v z->∃x l,cV x l/\okW wB l/\aR l/\WV wB l=an z/\∀h,vu [v] h=some ⟨.ao [.bool (decide (z<0)),x],h,[]⟩:=fun v z hv=>by
 obtain⟨x,l,h1,h2,h3,h4,h5⟩:=RB (M:=bw Tryz.prog FT HU) bP (fun s h hs=>HT s h hs) hv
 exact⟨x,l,h1,h2,h3,h4,dQ h5 (hZ hv.top)⟩
noncomputable def vv:Spec:=sK [] 247
theorem Tl:aW Tryz.prog gl 247 vv:=bC bR
theorem Tm:∀neg x l,cV x l->okW wB l->aR l->l.length<=1000001->∃v0,aL v0 (fF neg (WV wB l))/\∀h,vv [.bool neg,x] h=some ⟨v0,h,[]⟩:=fun neg x l hx ok nr hl=>by
 obtain⟨v0,h1,h2⟩:=RC (M:=bw Tryz.prog FT []) bP neg hx ok nr (by omega)
 exact⟨v0,h1,dQ h2 (fV rfl hx.top)⟩
noncomputable def TI:List (Nat×Spec):=[(245,rY),(244,me),(246,vu),(247,vv),(249,vk),(251,vn),(248,vo),(250,nC)]
theorem pQ:cm Tryz.prog gl (bk TI):=aS HS (aS Ba (aS Tj (aS Tl (aS SV (aS SW (aS SX (aS HN bR)))))))
structure EI (T:List (Nat×Spec)):Prop where
 Tn:∀ar h,bk T 245 ar h=rY ar h
 Bc:∀ar h,bk T 244 ar h=me ar h
 To:∀ar h,bk T 246 ar h=vu ar h
 Tp:∀ar h,bk T 247 ar h=vv ar h
 Tq:∀ar h,bk T 249 ar h=vk ar h
 Tr:∀ar h,bk T 251 ar h=vn ar h
 Ts:∀ar h,bk T 248 ar h=vo ar h
 Bk:∀ar h,bk T 250 ar h=nC ar h
theorem EI.c (E:EI T){N:Nat}(hN:N<=500000):CI (bw Tryz.prog FT T) N where
 ft:=bP
 lN:=hN
 rN:=by simp only[fK,E.Tn];exact HT
 nq:=by simp only[fK,E.Bc];exact Bb
 jT:=by simp only[fK,E.To];exact Tk
 jy:=by simp only[fK,E.Tp];exact Tm
 Hi:=by simp only[fK,E.Tq];exact SY
 AL:=by simp only[fK,E.Tr];exact SZ
 Hj:=by simp only[fK,E.Ts];exact Ta
 pF:=by simp only[fK,E.Bk];exact HO
theorem eI:EI TI:=by repeat' first|exact fun _ _=>rfl|constructor
noncomputable def vw:Spec:=sK TI 216
noncomputable def vy:Spec:=sK TI 202
noncomputable def vz:Spec:=sK TI 198
noncomputable def vB:Spec:=sK [] 211
noncomputable def vC:Spec:=sK [] 168
theorem Tt:aW Tryz.prog gl 216 vw:=bC pQ
theorem Tu:aW Tryz.prog gl 202 vy:=bC pQ
theorem Tv:aW Tryz.prog gl 198 vz:=bC pQ
theorem Tw:aW Tryz.prog gl 211 vB:=bC bR
theorem Tx:aW Tryz.prog gl 168 vC:=bC bR
def P1 (sp:Spec)(N:Nat)(f:Int->Int):Prop:=∀v z,aL v z->an z<wB^N->∃v0,aL v0 (f z)/\∀h,sp [v] h=some ⟨v0,h,[]⟩
def P2 (sp:Spec)(N:Nat)(f:Int->Int->Int):Prop:=∀a b x y,aL a x->aL b y->an x<wB^N->an y<wB^N->∃v0,aL v0 (f x y)/\∀h,sp [a,b] h=some ⟨v0,h,[]⟩
theorem P1.op {sp:Spec}{N g:Nat}{f:Int->Int}(p:P1 sp N f)(e:∀ar h,bk T g ar h=sp ar h):Op1 (bw Tryz.prog FT T) N g f:=fun v z hv hz=>by
 obtain⟨v0,h1,h2⟩:=p v z hv hz
 exact⟨v0,h1,fun h=>(e _ _).trans (h2 h)⟩
theorem P2.op {sp:Spec}{N g:Nat}{f:Int->Int->Int}(p:P2 sp N f)(e:∀ar h,bk T g ar h=sp ar h):vc (bw Tryz.prog FT T) N g f:=fun a b x y ha hb hx hy=>by
 obtain⟨v0,h1,h2⟩:=p a b x y ha hb hx hy
 exact⟨v0,h1,fun h=>(e _ _).trans (h2 h)⟩
theorem Ty {N:Nat}(hN:N<=500000):P1 vw N (fun z=>-z):=fun v z hv hz=>by
 obtain⟨v0,h1,h2⟩:=RI (eI.c hN) hv hz
 exact⟨v0,h1,dQ h2 (hZ hv.top)⟩
theorem Tz {N:Nat}(hN:N<=500000):P2 vy N (· + ·):=fun a b x y ha hb hx hy=>by
 obtain⟨v0,h1,h2⟩:=RP (eI.c hN) ha hb hx hy
 exact⟨v0,h1,dQ h2 (fV ha.top hb.top)⟩
theorem TA {N:Nat}(hN:N<=500000):P2 vz N (· * ·):=fun a b x y ha hb hx hy=>by
 obtain⟨v0,h1,h2⟩:=RW (eI.c hN) ha hb hx hy
 exact⟨v0,h1,dQ h2 (fV ha.top hb.top)⟩
theorem TB:∀v z,aL v z->∀h,vB [v] h=some ⟨.iV (bD z),h,[]⟩:=fun v z hv h=>cz (RJ bP hv) (hZ hv.top) rfl rfl h
theorem TC:∀s h,vC [.iV s] h=some ⟨.agg [.iV s,.ah],h,[]⟩:=fun s h=>(RT bP s).eq rfl
noncomputable def vD:List (Nat×Spec):=(216,vw)::(202,vy)::TI
theorem HV:cm Tryz.prog gl (bk vD):=aS Tt (aS Tu pQ)
structure vE (T:List (Nat×Spec)):Prop extends EI T where
 TE:∀ar h,bk T 216 ar h=vw ar h
 TH:∀ar h,bk T 202 ar h=vy ar h
theorem vE.c (E:vE T){N:Nat}(hN:N<=500000):AM (bw Tryz.prog FT T) N:={ E.toEI.c hN with kH:=(Ty hN).op E.TE,pL:=(Tz hN).op E.TH }
theorem TK:vE vD:=by repeat' first|exact fun _ _=>rfl|constructor
noncomputable def vF:Spec:=sK vD 217
theorem TL:aW Tryz.prog gl 217 vF:=bC HV
theorem TM {N:Nat}(hN:N<=500000):P2 vF N (· - ·):=fun a b x y ha hb hx hy=>by
 obtain⟨v0,h1,h2⟩:=RQ (TK.c hN) ha hb hx hy
 exact⟨v0,h1,dQ h2 (fV ha.top hb.top)⟩
noncomputable def TJ:List (Nat×Spec):=(217,vF)::(211,vB)::vD
theorem vG:cm Tryz.prog gl (bk TJ):=aS TL (aS Tw HV)
structure EJ (T:List (Nat×Spec)):Prop extends vE T where
 TN:∀ar h,bk T 217 ar h=vF ar h
 TO:∀ar h,bk T 211 ar h=vB ar h
theorem EJ.c (E:EJ T){N:Nat}(hN:N<=500000):CJ (bw Tryz.prog FT T) N:={ E.tovE.c hN with AN:=(TM hN).op E.TN,nw:=fun v z hv h=>(E.TO _ _).trans (TB v z hv h) }
theorem eJ:EJ TJ:=by repeat' first|exact fun _ _=>rfl|constructor
noncomputable def vH:Spec:=sK TJ 210
noncomputable def vI:Spec:=sK TJ 167
noncomputable def vJ:Spec:=sK TJ 199
theorem TP:aW Tryz.prog gl 210 vH:=bC vG
theorem TT:aW Tryz.prog gl 167 vI:=bC vG
theorem TV:aW Tryz.prog gl 199 vJ:=bC vG
theorem TW {N:Nat}(hN:N<=500000):P1 vH N an:=fun v z hv hz=>by
 obtain⟨v0,h1,h2⟩:=RR (eJ.c hN) hv hz
 exact⟨v0,h1,dQ h2 (hZ hv.top)⟩
theorem TX {N:Nat}(hN:N<=500000):∀a b x y,aL a x->aL b y->an x<wB^N->an y<wB^N->∀h,vI [a,b] h=some ⟨.iV (bD (x-y)),h,[]⟩:=fun a b x y ha hb hx hy=>
 dQ (RS (eJ.c hN) ha hb hx hy) (fV ha.top hb.top)
theorem TY {N:Nat}(hN:N<=500000):∀v q,bm v q->Bq N q->∃v0,bm v0 (-q)/\∀h,vJ [v] h=some ⟨v0,h,[]⟩:=fun v q hv lq=>by
 obtain⟨v0,h1,h2⟩:=SE (eJ.c hN) hv lq
 exact⟨v0,h1,dQ h2 (hZ hv.top)⟩
noncomputable def TD:List (Nat×Spec):=(168,vC)::(253,vt)::TJ
theorem Bl:cm Tryz.prog gl (bk TD):=aS Tx (aS Td vG)
structure ED (T:List (Nat×Spec)):Prop extends EJ T where
 TZ:∀ar h,bk T 168 ar h=vC ar h
 Ua:∀ar h,bk T 253 ar h=vt ar h
theorem ED.c (E:ED T){N:Nat}(h1:1<=N)(hN:N<=500000):CD (bw Tryz.prog FT T) N:={ E.toEJ.c hN with
 n1:=h1
 ny:=fun s h=>(E.TZ _ _).trans (TC s h)
 Hn:=by simp only[fK,E.Ua];exact Te }
theorem eD:ED TD:=by repeat' first|exact fun _ _=>rfl|constructor
noncomputable def vK:Spec:=sK TD 205
noncomputable def rZ:Spec:=sK TD 159
theorem Ub:aW Tryz.prog gl 205 vK:=bC Bl
theorem HW:aW Tryz.prog gl 159 rZ:=bC Bl
theorem Uc {N:Nat}(h1:1<=N)(hN:N<=500000):∀a b x y,aL a x->aL b y->an x<wB^N->an y<wB^N->0<y->∃q r,aL q (x/y)/\aL r (x%y)/\∀h,vK [a,b] h=some ⟨.ao [q,r],h,[]⟩:=fun a b x y ha hb hx hy h0=>by
 obtain⟨q,r,k1,k2,k3⟩:=Sb (eD.c h1 hN) ha hb hx hy h0
 exact⟨q,r,k1,k2,dQ k3 (fV ha.top hb.top)⟩
theorem iL.top {v:AV}{n d:Int}(h:iL v n d):v.top=0:=by
 obtain⟨s,w,s',w',rfl,h1,h2⟩:=h
 have t1:=h1.one.2.1
 have t2:=h2.one.2.1
 simp[AV.top,br,t1,t2]
theorem HX:∀v z,aL v z->∃v0,iL v0 z 1/\∀h,rZ [v] h=some ⟨v0,h,[]⟩:=fun v z hv=>by
 obtain⟨v0,h1,h2⟩:=Sp (eD.c (N:=1) (by decide) (by decide)) hv
 exact⟨v0,h1,dQ h2 (hZ hv.top)⟩
noncomputable def TQ:List (Nat×Spec):=(205,vK)::TD
theorem Bm:cm Tryz.prog gl (bk TQ):=aS Ub Bl
structure EQ (T:List (Nat×Spec)):Prop extends ED T where
 Ud:∀ar h,bk T 205 ar h=vK ar h
theorem EQ.c (E:EQ T){N:Nat}(h1:1<=N)(hN:N<=500000):CQ (bw Tryz.prog FT T) N:={ E.toED.c h1 hN with rR:=by simp only[fK,E.Ud];exact Uc h1 hN }
theorem eQ:EQ TQ:=by repeat' first|exact fun _ _=>rfl|constructor
noncomputable def vM:Spec:=sK TQ 252
theorem Ue:aW Tryz.prog gl 252 vM:=bC Bm
theorem Uf {N:Nat}(h1:1<=N)(hN:N<=500000):∀a b x y k,aL a x->aL b y->an x<wB^N->an y<wB^N->y≠0->x=y*k->∃v0,aL v0 k/\∀h,vM [a,b] h=some ⟨v0,h,[]⟩:=fun a b x y k ha hb hx hy h0 hk=>by
 obtain⟨v0,k1,k2⟩:=Sc (eQ.c h1 hN) ha hb hx hy h0 hk
 exact⟨v0,k1,dQ k2 (fV ha.top hb.top)⟩
noncomputable def TF:List (Nat×Spec):=(159,rZ)::(167,vI)::(198,vz)::TQ
theorem Bn:cm Tryz.prog gl (bk TF):=aS HW (aS TT (aS Tv Bm))
structure EF (T:List (Nat×Spec)):Prop extends EQ T where
 Ug:∀ar h,bk T 159 ar h=rZ ar h
 Uh:∀ar h,bk T 167 ar h=vI ar h
 Ui:∀ar h,bk T 198 ar h=vz ar h
theorem EF.c (E:EF T){N:Nat}(h1:1<=N)(hN:N<=500000):CF (bw Tryz.prog FT T) N:={ E.toEQ.c h1 hN with
 AR:=by simp only[fK,E.Ug];exact HX
 AS:=by simp only[fK,E.Uh];exact TX hN
 jz:=(TA hN).op E.Ui }
theorem eF:EF TF:=by repeat' first|exact fun _ _=>rfl|constructor
noncomputable def TG:List (Nat×Spec):=(210,vH)::TQ
theorem HY:cm Tryz.prog gl (bk TG):=aS TP Bm
structure EG (T:List (Nat×Spec)):Prop extends EQ T where
 Uj:∀ar h,bk T 210 ar h=vH ar h
theorem EG.c (E:EG T){N:Nat}(h1:1<=N)(hN:N<=500000):CG (bw Tryz.prog FT T) N:={ E.toEQ.c h1 hN with AT:=(TW hN).op E.Uj }
theorem eG:EG TG:=by repeat' first|exact fun _ _=>rfl|constructor
noncomputable def sc:Spec:=sK TG 165
theorem HZ:aW Tryz.prog gl 165 sc:=bC HY
theorem Ia {N:Nat}(h1:1<=N)(hN:N<=500000):∀a b x y,aL a x->aL b y->an x<wB^N->an y<wB^N->∃v0,aL v0 (Int.gcd x y:Nat)/\∀h,sc [a,b] h=some ⟨v0,h,[]⟩:=fun a b x y ha hb hx hy=>by
 obtain⟨v0,k1,k2⟩:=Sx (eG.c h1 hN) ha hb hx hy
 exact⟨v0,k1,dQ k2 (fV ha.top hb.top)⟩
noncomputable def TR:List (Nat×Spec):=(165,sc)::(252,vM)::TG
theorem Uk:cm Tryz.prog gl (bk TR):=aS HZ (aS Ue HY)
structure ER (T:List (Nat×Spec)):Prop extends EG T where
 Ul:∀ar h,bk T 165 ar h=sc ar h
 Um:∀ar h,bk T 252 ar h=vM ar h
theorem ER.c (E:ER T){N:Nat}(h1:1<=N)(hN:N<=500000):CR (bw Tryz.prog FT T) N:={ E.toEG.c h1 hN with
 rT:=by simp only[fK,E.Ul];exact Ia h1 hN
 AU:=by simp only[fK,E.Um];exact Uf h1 hN }
theorem eR:ER TR:=by repeat' first|exact fun _ _=>rfl|constructor
noncomputable def vN:Spec:=sK TR 203
theorem Un:aW Tryz.prog gl 203 vN:=bC Uk
theorem Uo {N:Nat}(h1:1<=N)(hN:N<=500000):∀a b n d,aL a n->aL b d->an n<wB^N->an d<wB^N->d≠0->∃v0,bm v0 (Rat.divInt n d)/\∀h,vN [a,b] h=some ⟨v0,h,[]⟩:=fun a b n d ha hb hn hd h0=>by
 obtain⟨v0,k1,k2⟩:=Sz (eR.c h1 hN) ha hb hn hd h0
 exact⟨v0,k1,dQ k2 (fV ha.top hb.top)⟩
noncomputable def TS:List (Nat×Spec):=(203,vN)::TF
theorem sd:cm Tryz.prog gl (bk TS):=aS Un Bn
structure ES (T:List (Nat×Spec)):Prop extends EF T where
 Up:∀ar h,bk T 203 ar h=vN ar h
theorem ES.c (E:ES T){N:Nat}(h1:1<=N)(hN:N<=200000):CS (bw Tryz.prog FT T) N (2*N+1):={ E.toEF.c h1 (show N<=500000 by omega) with
  eC:=E.toEF.c (by omega) (by omega)
  hN:=Nat.le_refl _
  vd:=by simp only[fK,E.Up];exact Uo (by omega) (by omega) }
theorem eS:ES TS:=by repeat' first|exact fun _ _=>rfl|constructor
noncomputable def se:Spec:=sK TS 152
noncomputable def Bo:Spec:=sK TS 148
noncomputable def Bp:Spec:=sK TS 160
noncomputable def vO:Spec:=sK TS 200
noncomputable def sf:Spec:=sK [] 201
theorem Ib:aW Tryz.prog gl 152 se:=bC sd
theorem Uq:aW Tryz.prog gl 148 Bo:=bC sd
theorem Ur:aW Tryz.prog gl 160 Bp:=bC sd
theorem Us:aW Tryz.prog gl 200 vO:=bC sd
theorem Ic:aW Tryz.prog gl 201 sf:=bC bR
theorem Ie {N:Nat}(h1:1<=N)(hN:N<=200000):∀a b p q,bm a p->bm b q->Bq N p->Bq N q->∃v0,bm v0 (p*q)/\∀h,se [a,b] h=some ⟨v0,h,[]⟩:=fun a b p q ha hb lp lq=>by
 obtain⟨v0,k1,k2⟩:=SA (eS.c h1 hN) ha hb lp lq
 exact⟨v0,k1,dQ k2 (fV ha.top hb.top)⟩
theorem Ut {N:Nat}(h1:1<=N)(hN:N<=200000):∀a b p q,bm a p->bm b q->Bq N p->Bq N q->∀h,Bo [a,b] h=some ⟨.iV (bD (p.num*q.den-q.num*p.den)),h,[]⟩:=fun a b p q ha hb lp lq=>
 dQ (SI (eS.c h1 hN) ha hb lp lq) (fV ha.top hb.top)
theorem Uu {N:Nat}(h1:1<=N)(hN:N<=200000):∀v q,bm v q->Bq N q->∃v0,aL v0 (q.num/q.den)/\∀h,Bp [v] h=some ⟨v0,h,[]⟩:=fun v q hv lq=>by
 obtain⟨v0,k1,k2⟩:=SJ (eS.c h1 hN) hv lq
 exact⟨v0,k1,dQ k2 (hZ hv.top)⟩
theorem Uv {N:Nat}(h1:1<=N)(hN:N<=200000):∀v q,bm v q->Bq N q->q≠0->∃v0,bm v0 q⁻¹/\∀h,vO [v] h=some ⟨v0,h,[]⟩:=fun v q hv lq h0=>by
 obtain⟨v0,k1,k2⟩:=SF (eS.c h1 hN) hv lq h0
 exact⟨v0,k1,dQ k2 (hZ hv.top)⟩
theorem Ig:∀v q,bm v q->∀h,sf [v] h=some ⟨.bool (decide (q.den=1)),h,[]⟩:=fun v q hv=>dQ (SB bP hv) (hZ hv.top)
noncomputable def vP:List (Nat×Spec):=(201,sf)::TS
theorem Ih:cm Tryz.prog gl (bk vP):=aS Ic sd
structure vW (T:List (Nat×Spec)):Prop extends ES T where
 Uw:∀ar h,bk T 201 ar h=sf ar h
theorem vW.c (E:vW T){N:Nat}(h1:1<=N)(hN:N<=200000):AW (bw Tryz.prog FT T) N (2*N+1):={ E.toES.c h1 hN with mc:=by simp only[fK,E.Uw];exact Ig }
theorem Ux:vW vP:=by repeat' first|exact fun _ _=>rfl|constructor
noncomputable def sh:Spec:=sK vP 151
theorem Ii:aW Tryz.prog gl 151 sh:=bC Ih
theorem Ij {N:Nat}(h1:1<=N)(hN:N<=200000):∀a b p q,bm a p->bm b q->Bq N p->Bq N q->∃v0,bm v0 (p+q)/\∀h,sh [a,b] h=some ⟨v0,h,[]⟩:=fun a b p q ha hb lp lq=>by
 obtain⟨v0,k1,k2⟩:=SD (Ux.c h1 hN) ha hb lp lq
 exact⟨v0,k1,dQ k2 (fV ha.top hb.top)⟩
noncomputable def TU:List (Nat×Spec):=(199,vJ)::(200,vO)::(151,sh)::(152,se)::vP
theorem Ik:cm Tryz.prog gl (bk TU):=aS TV (aS Us (aS Ii (aS Ib Ih)))
structure EU (T:List (Nat×Spec)):Prop extends vW T where
 Uy:∀ar h,bk T 199 ar h=vJ ar h
 Uz:∀ar h,bk T 200 ar h=vO ar h
 UA:∀ar h,bk T 151 ar h=sh ar h
 UB:∀ar h,bk T 152 ar h=se ar h
theorem EU.c (E:EU T){N:Nat}(h1:1<=N)(hN:N<=200000):CU (bw Tryz.prog FT T) N (2*N+1):={ E.tovW.c h1 hN with
 HE:=by simp only[fK,E.Uy];exact TY (by omega)
 HF:=by simp only[fK,E.Uz];exact Uv h1 hN
 HG:=by simp only[fK,E.UA];exact Ij h1 hN
 HH:=by simp only[fK,E.UB];exact Ie h1 hN }
theorem eU:EU TU:=by repeat' first|exact fun _ _=>rfl|constructor
noncomputable def Br:Spec:=sK TU 149
noncomputable def Bs:Spec:=sK TU 150
theorem UC:aW Tryz.prog gl 149 Br:=bC Ik
theorem UD:aW Tryz.prog gl 150 Bs:=bC Ik
theorem UE {N:Nat}(h1:1<=N)(hN:N<=200000):∀a b p q,bm a p->bm b q->Bq N p->Bq N q->∃v0,bm v0 (p-q)/\∀h,Br [a,b] h=some ⟨v0,h,[]⟩:=fun a b p q ha hb lp lq=>by
 obtain⟨v0,k1,k2⟩:=SG (eU.c h1 hN) ha hb lp lq
 exact⟨v0,k1,dQ k2 (fV ha.top hb.top)⟩
theorem UF {N:Nat}(h1:1<=N)(hN:N<=200000):∀a b p q,bm a p->bm b q->Bq N p->Bq N q->Bq N q⁻¹->q≠0->∃v0,bm v0 (p*q⁻¹)/\∀h,Bs [a,b] h=some ⟨v0,h,[]⟩:=fun a b p q ha hb lp lq li h0=>by
 obtain⟨v0,k1,k2⟩:=SH (eU.c h1 hN) ha hb lp lq li h0
 exact⟨v0,k1,dQ k2 (fV ha.top hb.top)⟩
end Go.Ab.Ch1

/-
  Own work: the code of functions: decimal texts of machine integers.
-/
namespace Go.Ab.Ch1
set_option maxRecDepth 1000000
def Il:ak:=.seq (.region [⟨.p 1,.mv (.c (.str [])),none⟩]) (.seq (.region [zm 3 0,z1 4 226 3,zw 1 4]) (.ret))
theorem UG:FT 183=some ⟨5,[0,2],[.var (.p 1)],Il⟩:=by kernel_rfl
def Im:ak:=.seq (.region [⟨.p 1,.mv (.c (.str [])),none⟩]) (.seq (.region [zm 3 0,⟨.l 4,.call (kF 267) [(.l 3),(kI 10)],none⟩,zw 1 4]) (.ret))
theorem UH:FT 226=some ⟨5,[0,2],[.var (.p 1)],Im⟩:=by kernel_rfl
def Io:ak:=.seq (.region [⟨.p 1,.mv (.c (.str [])),none⟩]) (.seq (.seq (.region [zm 3 0,zc 4 .lss 3 10]) (.cond (.l 4) (.seq (.region [zm 5 0,zm 6 0,zc 7 .add 6 1,⟨.l 8,.slice .str 1 (.c (.str zD2)) (some (.l 5)) (some (.l 7)) none,none⟩,zw 1 8]) (.ret)) (.skip))) (.seq (.region [zm 9 0,zc 10 .mul 9 2,zm 11 0,zc 12 .mul 11 2,zc 13 .add 12 2,⟨.l 14,.slice .str 1 (.c (.str zD1)) (some (.l 10)) (some (.l 13)) none,none⟩,zw 1 14]) (.ret)))
theorem UI:FT 304=some ⟨15,[0,2],[.var (.p 1)],Io⟩:=by kernel_rfl
def Ip:ak:=.seq (.region [⟨.p 2,.mv (.c (.str [])),none⟩]) (.seq (.seq (.region [zm 10 1,zc 11 .eql 10 10]) (.cond (.l 11) (.seq (.seq (.region [zm 12 0,⟨.l 13,.bin .leq (kI 0) (.l 12),none⟩,zn 14 13,zg (zm 15 0) 14 true,zg (zc 16 .lss 15 100) 14 true,zp 17 14 16]) (.cond (.l 17) (.seq (.region [zm 18 0,z1 19 304 18,zw 2 19]) (.ret)) (.skip))) (.seq (.region [⟨.p 3,.alloc 301 [.int .u8 (0),.int .u8 (0),.int .u8 (0),.int .u8 (0),.int .u8 (0),.int .u8 (0),.int .u8 (0),.int .u8 (0),.int .u8 (0),.int .u8 (0),.int .u8 (0),.int .u8 (0),.int .u8 (0),.int .u8 (0),.int .u8 (0),.int .u8 (0),.int .u8 (0),.int .u8 (0),.int .u8 (0),.int .u8 (0),.int .u8 (0),.int .u8 (0),.int .u8 (0),.int .u8 (0)],none⟩]) (.seq (.region [zm 20 0,⟨.l 21,.du .u64 (.l 20),none⟩,zw 4 21]) (.seq (.seq (.region [zm 22 0,zc 23 .lss 22 0]) (.cond (.l 23) (.region [zm 24 4,⟨.l 25,.un .neg (.l 24),none⟩,zw 4 25]) (.skip))) (.seq (.region [zm 26 4,z1 27 305 26,zw 5 27]) (.seq (.region [zm 28 5,⟨.l 29,.bin .add (kI 1) (.l 28),none⟩,⟨.l 30,.ic 24 1 (.p 3) (some (kI 1)) (some (.l 29)),none⟩,zm 31 4,z2 32 306 30 31]) (.seq (.seq (.region [zm 33 0,zc 34 .lss 33 0]) (.cond (.l 34) (.seq (.region [⟨.l 35,.dw (some 24) 1 (.p 3) (kI 0),none⟩,⟨.no,.store 1 (.l 35) (.c (.int .u8 (45))),none⟩]) (.seq (.region [zm 36 5,⟨.l 37,.bin .add (kI 1) (.l 36),none⟩,⟨.l 38,.ic 24 1 (.p 3) none (some (.l 37)),none⟩,⟨.l 39,.kd (.l 38),none⟩,zw 2 39]) (.ret))) (.skip))) (.seq (.region [zm 40 5,⟨.l 41,.bin .add (kI 1) (.l 40),none⟩,⟨.l 42,.ic 24 1 (.p 3) (some (kI 1)) (some (.l 41)),none⟩,⟨.l 43,.kd (.l 42),none⟩,zw 2 43]) (.ret))))))))) (.skip))) (.seq (.region [zm 45 0,⟨.l 46,.du .u64 (.l 45),none⟩,zm 47 1,zm 48 0,zc 49 .lss 48 0,⟨.l 50,.call (kF 307) [(.c (.ah)),(.l 46),(.l 47),(.l 49),(.c (.bool false))],none⟩,zn 44 50,ze 51 0 44,ze 52 1 44,zn 8 51,zw 6 52]) (.seq (.region [zm 53 6,zw 2 53]) (.ret))))
theorem UJ:FT 267=some ⟨54,[0,1,4,5,6,7,9],[.var (.p 2)],Ip⟩:=by kernel_rfl
def Iq:ak:=.seq (.region [zi 1 0]) (.seq (.region [zm 4 0,z1 5 240 4,z1 6 324 5,zw 2 6]) (.seq (.region [zm 7 2,zm 8 0,zm 9 2,⟨.l 10,.dw (some 20) 1 (.c (.vp [.uV (1),.uV (10),.uV (100),.uV (1000),.uV (10000),.uV (100000),.uV (1000000),.uV (10000000),.uV (100000000),.uV (1000000000),.uV (10000000000),.uV (100000000000),.uV (1000000000000),.uV (10000000000000),.uV (100000000000000),.uV (1000000000000000),.uV (10000000000000000),.uV (100000000000000000),.uV (1000000000000000000),.uV (10000000000000000000)])) (.l 9),none⟩,zd 11 1 10,zb 12 .geq 8 11,z1 13 325 12,zb 14 .add 7 13,zw 1 14]) (.ret)))
theorem UK:FT 305=some ⟨15,[0,2,3],[.var (.p 1)],Iq⟩:=by kernel_rfl
def vY:ak:=.seq (.seq (.region [zm 19 2,zc 20 .geq 19 8]) (.cond (.l 20) (.skip) (.exit 0))) (.block 1 (.seq (.region [zm 21 1,⟨.l 22,.bin .rem (.l 21) (kU 100000000),none⟩,⟨.l 23,.du .u32 (.l 22),none⟩,zw 3 23]) (.seq (.region [zm 24 1,⟨.l 25,.bin .quo (.l 24) (kU 100000000),none⟩,zw 1 25]) (.seq (.region [zm 26 3,⟨.l 27,.bin .quo (.l 26) (kW 10000),none⟩,zm 28 3,⟨.l 29,.bin .rem (.l 28) (kW 10000),none⟩,zw 4 27,zw 5 29]) (.seq (.region [zm 30 5,⟨.l 31,.bin .quo (.l 30) (kW 100),none⟩,⟨.l 32,.bin .mul (.l 31) (kW 2),none⟩,zm 33 5,⟨.l 34,.bin .rem (.l 33) (kW 100),none⟩,⟨.l 35,.bin .mul (.l 34) (kW 2),none⟩,zw 6 32,zw 7 35]) (.seq (.region [zm 36 4,⟨.l 37,.bin .quo (.l 36) (kW 100),none⟩,⟨.l 38,.bin .mul (.l 37) (kW 2),none⟩,zm 39 4,⟨.l 40,.bin .rem (.l 39) (kW 100),none⟩,⟨.l 41,.bin .mul (.l 40) (kW 2),none⟩,zw 8 38,zw 9 41]) (.seq (.draw [(zm 42 0,[]),(zm 43 2,[0]),(zc 44 .sub 43 1,[0]),(zm 45 0,[0,1,2]),(zm 46 2,[0,1,2,3]),(zc 47 .sub 46 2,[0,1,2,3]),(zm 48 7,[0,1,2,3,4,5]),(⟨.l 49,.bin .add (.l 48) (kW 1),none⟩,[0,1,2,3,4,5]),(⟨.l 50,.index (.c (.str zD1)) (.l 49),none⟩,[0,1,2,3,4,5]),(zm 51 7,[0,1,2,3,4,5,6,7,8]),(⟨.l 52,.index (.c (.str zD1)) (.l 51),none⟩,[0,1,2,3,4,5,6,7,8]),(za 53 1 42 44,[3,4,5,9,10]),(zS 1 53 50,[3,4,5,9,10]),(za 54 1 45 47,[]),(zS 1 54 52,[])]) (.seq (.draw [(zm 55 0,[]),(zm 56 2,[0]),(zc 57 .sub 56 3,[0]),(zm 58 0,[0,1,2]),(zm 59 2,[0,1,2,3]),(zc 60 .sub 59 4,[0,1,2,3]),(zm 61 6,[0,1,2,3,4,5]),(⟨.l 62,.bin .add (.l 61) (kW 1),none⟩,[0,1,2,3,4,5]),(⟨.l 63,.index (.c (.str zD1)) (.l 62),none⟩,[0,1,2,3,4,5]),(zm 64 6,[0,1,2,3,4,5,6,7,8]),(⟨.l 65,.index (.c (.str zD1)) (.l 64),none⟩,[0,1,2,3,4,5,6,7,8]),(za 66 1 55 57,[3,4,5,9,10]),(zS 1 66 63,[3,4,5,9,10]),(za 67 1 58 60,[]),(zS 1 67 65,[])]) (.seq (.draw [(zm 68 0,[]),(zm 69 2,[0]),(zc 70 .sub 69 5,[0]),(zm 71 0,[0,1,2]),(zm 72 2,[0,1,2,3]),(zc 73 .sub 72 6,[0,1,2,3]),(zm 74 9,[0,1,2,3,4,5]),(⟨.l 75,.bin .add (.l 74) (kW 1),none⟩,[0,1,2,3,4,5]),(⟨.l 76,.index (.c (.str zD1)) (.l 75),none⟩,[0,1,2,3,4,5]),(zm 77 9,[0,1,2,3,4,5,6,7,8]),(⟨.l 78,.index (.c (.str zD1)) (.l 77),none⟩,[0,1,2,3,4,5,6,7,8]),(za 79 1 68 70,[3,4,5,9,10]),(zS 1 79 76,[3,4,5,9,10]),(za 80 1 71 73,[]),(zS 1 80 78,[])]) (.seq (.draw [(zm 81 0,[]),(zm 82 2,[0]),(zc 83 .sub 82 7,[0]),(zm 84 0,[0,1,2]),(zm 85 2,[0,1,2,3]),(zc 86 .sub 85 8,[0,1,2,3]),(zm 87 8,[0,1,2,3,4,5]),(⟨.l 88,.bin .add (.l 87) (kW 1),none⟩,[0,1,2,3,4,5]),(⟨.l 89,.index (.c (.str zD1)) (.l 88),none⟩,[0,1,2,3,4,5]),(zm 90 8,[0,1,2,3,4,5,6,7,8]),(⟨.l 91,.index (.c (.str zD1)) (.l 90),none⟩,[0,1,2,3,4,5,6,7,8]),(za 92 1 81 83,[3,4,5,9,10]),(zS 1 92 89,[3,4,5,9,10]),(za 93 1 84 86,[]),(zS 1 93 91,[])]) (.region [zm 94 2,zc 95 .sub 94 8,zw 2 95])))))))))))
def Ir:ak:=.seq (.region [zm 17 0,zl 18 17,zw 2 18]) (.seq (.block 0 (.loop vY)) (.seq (.region [zm 96 1,⟨.l 97,.du .u32 (.l 96),none⟩,zw 10 97]) (.seq (.seq (.region [zm 98 2,zc 99 .geq 98 4]) (.cond (.l 99) (.seq (.region [zm 100 10,⟨.l 101,.bin .rem (.l 100) (kW 10000),none⟩,zw 11 101]) (.seq (.region [zm 102 10,⟨.l 103,.bin .quo (.l 102) (kW 10000),none⟩,zw 10 103]) (.seq (.region [zm 104 11,⟨.l 105,.bin .quo (.l 104) (kW 100),none⟩,⟨.l 106,.bin .mul (.l 105) (kW 2),none⟩,zm 107 11,⟨.l 108,.bin .rem (.l 107) (kW 100),none⟩,⟨.l 109,.bin .mul (.l 108) (kW 2),none⟩,zw 12 106,zw 13 109]) (.seq (.draw [(zm 110 0,[]),(zm 111 2,[0]),(zc 112 .sub 111 1,[0]),(zm 113 0,[0,1,2]),(zm 114 2,[0,1,2,3]),(zc 115 .sub 114 2,[0,1,2,3]),(zm 116 13,[0,1,2,3,4,5]),(⟨.l 117,.bin .add (.l 116) (kW 1),none⟩,[0,1,2,3,4,5]),(⟨.l 118,.index (.c (.str zD1)) (.l 117),none⟩,[0,1,2,3,4,5]),(zm 119 13,[0,1,2,3,4,5,6,7,8]),(⟨.l 120,.index (.c (.str zD1)) (.l 119),none⟩,[0,1,2,3,4,5,6,7,8]),(za 121 1 110 112,[3,4,5,9,10]),(zS 1 121 118,[3,4,5,9,10]),(za 122 1 113 115,[]),(zS 1 122 120,[])]) (.seq (.draw [(zm 123 0,[]),(zm 124 2,[0]),(zc 125 .sub 124 3,[0]),(zm 126 0,[0,1,2]),(zm 127 2,[0,1,2,3]),(zc 128 .sub 127 4,[0,1,2,3]),(zm 129 12,[0,1,2,3,4,5]),(⟨.l 130,.bin .add (.l 129) (kW 1),none⟩,[0,1,2,3,4,5]),(⟨.l 131,.index (.c (.str zD1)) (.l 130),none⟩,[0,1,2,3,4,5]),(zm 132 12,[0,1,2,3,4,5,6,7,8]),(⟨.l 133,.index (.c (.str zD1)) (.l 132),none⟩,[0,1,2,3,4,5,6,7,8]),(za 134 1 123 125,[3,4,5,9,10]),(zS 1 134 131,[3,4,5,9,10]),(za 135 1 126 128,[]),(zS 1 135 133,[])]) (.region [zm 136 2,zc 137 .sub 136 4,zw 2 137])))))) (.skip))) (.seq (.seq (.region [zm 138 2,zc 139 .geq 138 2]) (.cond (.l 139) (.seq (.region [zm 140 10,⟨.l 141,.bin .rem (.l 140) (kW 100),none⟩,⟨.l 142,.bin .mul (.l 141) (kW 2),none⟩,zw 14 142]) (.seq (.region [zm 143 10,⟨.l 144,.bin .quo (.l 143) (kW 100),none⟩,zw 10 144]) (.seq (.draw [(zm 145 0,[]),(zm 146 2,[0]),(zc 147 .sub 146 1,[0]),(zm 148 0,[0,1,2]),(zm 149 2,[0,1,2,3]),(zc 150 .sub 149 2,[0,1,2,3]),(zm 151 14,[0,1,2,3,4,5]),(⟨.l 152,.bin .add (.l 151) (kW 1),none⟩,[0,1,2,3,4,5]),(⟨.l 153,.index (.c (.str zD1)) (.l 152),none⟩,[0,1,2,3,4,5]),(zm 154 14,[0,1,2,3,4,5,6,7,8]),(⟨.l 155,.index (.c (.str zD1)) (.l 154),none⟩,[0,1,2,3,4,5,6,7,8]),(za 156 1 145 147,[3,4,5,9,10]),(zS 1 156 153,[3,4,5,9,10]),(za 157 1 148 150,[]),(zS 1 157 155,[])]) (.region [zm 158 2,zc 159 .sub 158 2,zw 2 159])))) (.skip))) (.seq (.region [zm 160 2,zc 161 .gtr 160 0]) (.cond (.l 161) (.region [zm 162 0,zm 163 10,⟨.l 164,.bin .add (kW 48) (.l 163),none⟩,⟨.l 165,.du .u8 (.l 164),none⟩,⟨.l 166,.dw none 1 (.l 162) (kI 0),none⟩,zS 1 166 165]) (.skip)))))))
theorem UL:FT 306=some ⟨167,[0,1,4,5,6,7,8,9,10,11,12,13,14,15,16],[],Ir⟩:=by kernel_rfl
def Is:ak:=.seq (.region [⟨.p 2,.mv (.c (.str [])),none⟩]) (.seq (.region [zm 5 0,zm 6 1,z2 7 299 5 6,zw 2 7]) (.ret))
theorem UM:FT 263=some ⟨8,[0,1,4],[.var (.p 2)],Is⟩:=by kernel_rfl
def It:ak:=.seq (.region [⟨.p 2,.mv (.c (.str [])),none⟩]) (.seq (.seq (.region [zm 9 1,zc 10 .eql 9 10]) (.cond (.l 10) (.seq (.seq (.region [zm 11 0,⟨.l 12,.bin .lss (.l 11) (kU 100),none⟩]) (.cond (.l 12) (.seq (.region [zm 13 0,⟨.l 14,.du .i64 (.l 13),none⟩,z1 15 304 14,zw 2 15]) (.ret)) (.skip))) (.seq (.region [⟨.p 3,.alloc 301 [.int .u8 (0),.int .u8 (0),.int .u8 (0),.int .u8 (0),.int .u8 (0),.int .u8 (0),.int .u8 (0),.int .u8 (0),.int .u8 (0),.int .u8 (0),.int .u8 (0),.int .u8 (0),.int .u8 (0),.int .u8 (0),.int .u8 (0),.int .u8 (0),.int .u8 (0),.int .u8 (0),.int .u8 (0),.int .u8 (0),.int .u8 (0),.int .u8 (0),.int .u8 (0),.int .u8 (0)],none⟩]) (.seq (.region [zm 16 0,z1 17 305 16,zw 4 17]) (.seq (.region [zm 18 4,⟨.l 19,.ic 24 1 (.p 3) none (some (.l 18)),none⟩,zm 20 0,z2 21 306 19 20]) (.seq (.region [zm 22 4,⟨.l 23,.ic 24 1 (.p 3) none (some (.l 22)),none⟩,⟨.l 24,.kd (.l 23),none⟩,zw 2 24]) (.ret)))))) (.skip))) (.seq (.region [zm 26 0,zm 27 1,⟨.l 28,.call (kF 307) [(.c (.ah)),(.l 26),(.l 27),(.c (.bool false)),(.c (.bool false))],none⟩,zn 25 28,ze 29 0 25,ze 30 1 25,zn 7 29,zw 5 30]) (.seq (.region [zm 31 5,zw 2 31]) (.ret))))
theorem UN:FT 299=some ⟨32,[0,1,4,5,6,8],[.var (.p 2)],It⟩:=by kernel_rfl
def Iu:ak:=.seq (.region [zi 1 0]) (.seq (.region [zm 3 0,zc 4 .mul 3 78913,⟨.l 5,.bin .shr (.l 4) (kU 18),none⟩,zw 1 5]) (.ret))
theorem UO:FT 324=some ⟨6,[0,2],[.var (.p 1)],Iu⟩:=by kernel_rfl
def Iv:ak:=.seq (.region [zi 1 0]) (.seq (.seq (.region [zm 3 0]) (.cond (.l 3) (.seq (.region [zi 1 1]) (.ret)) (.skip))) (.seq (.region [zi 1 0]) (.ret)))
theorem UP:FT 325=some ⟨4,[0,2],[.var (.p 1)],Iv⟩:=by kernel_rfl
end Go.Ab.Ch1

/-
  Own work: decimal texts of natural numbers: digits, texts, values.
-/
namespace Go.Ab.bz
def fe (d:Nat):UInt8:=UInt8.ofNat (48+d)
def dG:Nat->Nat->al
 | 0,_=>[]
 | k+1,n=>dG k (n/10)++[fe (n%10)]
def bh (n:Nat):al:=if n<10 then [fe n] else bh (n/10)++[fe (n%10)]
termination_by n
decreasing_by omega
def aM (n:Nat)(s:al):Nat:=s.foldl (fun n b=>10*n+(b.toNat-48)) n
def vZ (c:Nat):Bool:=48<=c && c<58
abbrev bF (b:UInt8):Bool:=vZ b.toNat
theorem jW (b:UInt8):bF b=true↔48<=b.toNat/\b.toNat<58:=by simp[bF,vZ]
theorem pR {d:Nat}(h:d<10):(fe d).toNat=48+d:=by simp[fe];omega
theorem Bt {d:Nat}(h:d<10):bF (fe d)=true:=by rw[jW,pR h];omega
theorem UQ {b:UInt8}(h:bF b=true):fe (b.toNat-48)=b:=by
 rw[jW]at h
 apply UInt8.toNat_inj.1
 rw[pR (by omega)];omega
theorem nE:∀(k n:Nat),(dG k n).length=k
 | 0,_=>rfl
 | k+1,n=>by simp[dG,nE k]
theorem Iw:∀(k n:Nat),(dG k n).all bF=true
 | 0,_=>rfl
 | k+1,n=>by simp only[dG,List.all_append,Iw k,List.all_cons,List.all_nil,Bt (Nat.mod_lt n (show 10 > 0 by decide)),Bool.and_self]
theorem Ix:∀{k n j:Nat},j<k->(dG k n)[j]! = fe (n/10^(k-1-j)%10)
 | k+1,n,j,h=>by
  rw[dG]
  by_cases hj:j<k
  . have h1:j<(dG k (n/10)).length:=by rw[nE];exact hj
    have e:(dG k (n/10)++[fe (n%10)])[j]! = (dG k (n/10))[j]! := by
     simp only[List.getElem!_eq_getElem?_getD,List.getElem?_append_left h1]
    rw[e,Ix hj,show k+1-1-j=(k-1-j)+1 by omega,Nat.pow_succ,Nat.mul_comm,←Nat.div_div_eq_div_mul]
  . obtain rfl:j=k:=by omega
    have e:(dG j (n/10)++[fe (n%10)])[j]! = fe (n%10):=by
     simp only[List.getElem!_eq_getElem?_getD]
     rw[List.getElem?_append_right (by rw[nE];exact Nat.le_refl _),nE]
     simp
    rw[e];simp
theorem UR {k n:Nat}{s:al}(hl:s.length=k)(h:∀j,j<k->s[j]! = fe (n/10^(k-1-j)%10)):s=dG k n:=by
 apply List.ext_getElem (by rw[hl,nE])
 intro i h1 h2
 have e1:=h i (by omega)
 have e2:=Ix (n:=n) (show i<k by omega)
 rw[←e2]at e1
 simpa[List.getElem!_eq_getElem?_getD,List.getElem?_eq_getElem h1,List.getElem?_eq_getElem h2] using e1
theorem gN {n:Nat}(h:n<10):bh n=[fe n]:=by rw[bh,if_pos h]
theorem jA {n:Nat}(h:¬n<10):bh n=bh (n/10)++[fe (n%10)]:=by rw[bh,if_neg h]
theorem Bu:∀{k n:Nat},n<10^(k+1)->(k=0\/10^k<=n)->bh n=dG (k+1) n
 | 0,n,h,_=>by
  have h:n<10:=by simpa using h
  rw[gN h]
  simp[dG,Nat.mod_eq_of_lt h]
 | k+1,n,h,h2=>by
  have h2:10^(k+1)<=n:=h2.resolve_left (by omega)
  rw[Nat.pow_succ]at h h2
  have hp:0<10^k:=Nat.pow_pos (by decide)
  rw[jA (by omega),Bu (k:=k) (n:=n/10) (by omega) (.inr (by omega))]
  rfl
theorem Iy:∀{k a b:Nat},0<a->b<10^k->bh (a*10^k+b)=bh a++dG k b
 | 0,a,b,_,hb=>by
  obtain rfl:b=0:=by simpa using hb
  simp[dG]
 | k+1,a,b,ha,hb=>by
  rw[Nat.pow_succ]at hb ⊢
  have hp:0<10^k:=Nat.pow_pos (by decide)
  have h1:10<=a*(10^k*10)+b:=by
   have:=Nat.mul_le_mul ha (Nat.mul_le_mul_right 10 hp)
   omega
  have e1:(a*(10^k*10)+b)/10=a*10^k+b/10:=by
   rw[←Nat.mul_assoc];omega
  have e2:(a*(10^k*10)+b)%10=b%10:=by
   rw[←Nat.mul_assoc];omega
  rw[jA (by omega),e1,e2,Iy ha (by omega),dG,List.append_assoc]
theorem nF (n:Nat)(s t:al):aM n (s++t)=aM (aM n s) t:=by simp[aM,List.foldl_append]
theorem si (n:Nat)(b:UInt8)(s:al):aM n (b::s)=aM (10*n+(b.toNat-48)) s:=by rw[aM,aM,List.foldl_cons]
theorem sm (n:Nat)(b:UInt8):aM n [b]=10*n+(b.toNat-48):=by rw[aM,List.foldl_cons,List.foldl_nil]
theorem wc (s:al):∀(n:Nat),aM n s=n*10^s.length+aM 0 s:=by
 induction s with
 | nil=>intro n;simp[aM]
 | cons b s ih=>
  intro n
  rw[si,si,ih,ih (10*0+_),List.length_cons,Nat.pow_succ,Nat.add_mul]
  have:10*n*10^s.length=n*(10^s.length*10):=by rw[Nat.mul_comm 10 n,Nat.mul_assoc,Nat.mul_comm 10]
  rw[this]
  simp only[Nat.mul_zero,Nat.zero_add]
  omega
theorem nG (s:al):s.all bF=true->aM 0 s<10^s.length:=by
 induction s with
 | nil=>intro _;simp[aM]
 | cons b s ih=>
  intro h
  simp only[List.all_cons,Bool.and_eq_true]at h
  have hb:=(jW b).1 h.1
  have:=ih h.2
  rw[si,wc,List.length_cons,Nat.pow_succ]
  have h2:(10*0+(b.toNat-48))*10^s.length<=9*10^s.length:=Nat.mul_le_mul_right _ (by omega)
  omega
theorem Iz:∀(k n m:Nat),aM m (dG k n)=m*10^k+n%10^k
 | 0,n,m=>by simp[aM,dG,Nat.mod_one]
 | k+1,n,m=>by
  rw[dG,nF,Iz k,sm,pR (Nat.mod_lt _ (by decide)),Nat.pow_succ]
  have e:n%(10^k*10)=n%10+10*(n/10%10^k):=by rw[Nat.mul_comm (10^k) 10,Nat.mod_mul]
  rw[e,Nat.mul_add,←Nat.mul_assoc m,Nat.mul_comm 10 (m*10^k)]
  omega
theorem mf (n:Nat):aM 0 (bh n)=n:=by
 induction n using Nat.strongRecOn with
 | _ n ih=>
  by_cases h:n<10
  . rw[gN h,sm,pR h];omega
  . rw[jA h,nF,ih _ (by omega),sm,pR (Nat.mod_lt _ (by decide))];omega
theorem pS (n:Nat):(bh n).all bF=true:=by
 induction n using Nat.strongRecOn with
 | _ n ih=>
  by_cases h:n<10
  . rw[gN h];simp[Bt h]
  . rw[jA h,List.all_append,ih _ (by omega)];simp[Bt (Nat.mod_lt n (show 10 > 0 by decide))]
theorem kK (n:Nat):bh n≠[]:=by
 by_cases h:n<10
 . rw[gN h];simp
 . rw[jA h];simp
def Bv (s:al):Prop:=s≠[]/\s.all bF=true/\(s.head? = some 48->s.length=1)
theorem US {s:al}(h:s.all bF=true):dG s.length (aM 0 s)=s:=by
 have key:∀(k:Nat) (s:al),s.length=k->s.all bF=true->dG s.length (aM 0 s)=s:=by
  intro k
  induction k with
  | zero=>intro s hs _;rw[List.eq_nil_of_length_eq_zero hs];rfl
  | succ k ih=>
   intro s hs h
   rcases List.eq_nil_or_concat s with rfl|⟨t,c,e⟩
   . simp at hs
   . rw[List.concat_eq_append]at e
     subst e
     simp only[List.length_append,List.length_cons,List.length_nil]at hs ⊢
     simp only[List.all_append,List.all_cons,List.all_nil,Bool.and_true,Bool.and_eq_true]at h
     have hc:=(jW c).1 h.2
     rw[show t.length+(0+1)=t.length+1 by omega,dG,nF,sm]
     rw[show (10*aM 0 t+(c.toNat-48))/10=aM 0 t by omega,show (10*aM 0 t+(c.toNat-48))%10=c.toNat-48 by omega,ih t (by omega) h.1,UQ h.2]
 exact key _ s rfl h
theorem IA {s:al}(h:Bv s):bh (aM 0 s)=s:=by
 obtain⟨h0,h1,h2⟩:=h
 cases s with
 | nil=>exact absurd rfl h0
 | cons b t=>
  have lt:=nG _ h1
  rw[List.length_cons]at lt
  refine(Bu lt ?_).trans (US h1)
  cases t with
  | nil=>exact .inl rfl
  | cons c t=>
   right
   have hb:b≠48:=fun e=>by
    have:=h2 (by rw[e];rfl)
    simp at this
   simp only[List.all_cons,Bool.and_eq_true]at h1
   have hb1:=(jW b).1 h1.1
   have hb2:49<=b.toNat:=by
    have:b.toNat≠48:=fun e=>hb (UInt8.toNat_inj.1 e)
    omega
   rw[si,wc]
   have:=Nat.mul_le_mul_right (10^(c::t).length) (show 1<=10*0+(b.toNat-48) by omega)
   omega
theorem UT (n:Nat):Bv (bh n):=by
 refine⟨kK n,pS n,?_⟩
 induction n using Nat.strongRecOn with
 | _ n ih=>
  by_cases h:n<10
  . rw[gN h];intro _;rfl
  . rw[jA h]
    intro e
    have e2:(bh (n/10)).head? = some 48:=by
     cases hd:bh (n/10) with
     | nil=>exact absurd hd (kK _)
     | cons b t=>rw[hd]at e;exact e
    have l1:=ih _ (show n/10<n by omega) e2
    exfalso
    have e3:bh (n/10)=[48]:=by
     cases hd:bh (n/10) with
     | nil=>exact absurd hd (kK _)
     | cons b t=>
      rw[hd]at e2 l1
      simp at l1 e2
      rw[e2,l1]
    have:=mf (n/10)
    rw[e3]at this
    simp[aM]at this
    omega
theorem we {n k:Nat}(h:n<10^k)(hk:0<k):(bh n).length<=k:=by
 induction k generalizing n with
 | zero=>omega
 | succ k ih=>
  by_cases h1:n<10
  . rw[gN h1];simp
  . rw[jA h1,List.length_append]
    rw[Nat.pow_succ]at h
    have h0:0<k:=by
     rcases Nat.eq_zero_or_pos k with rfl|hp
     . simp at h;omega
     . exact hp
    have:=ih (n:=n/10) (by omega) h0
    simp;omega
end Go.Ab.bz

/-
  Own work: decimal texts of machine integers: bytes, the number of digits, texts of two digits.
-/
namespace Go.Ab.Ch1
open Go.Ab.bz
variable {M:aO} {cap:Option Nat}
abbrev ir (k:Nat):AV:=.fn (.func k) [] []
def bp (s:al):List AV:=s.map fun c=>.int .u8 c.toNat
theorem UU (a b:al):bp (a++b)=bp a++bp b:=by simp[bp]
theorem kL (a:al):(bp a).length=a.length:=by simp[bp]
theorem IB (a:al):(bp a).all cR=true:=by simp[bp,cR]
theorem IC:∀a:al,br (bp a)=0
 | []=>rfl
 | c::a=>by
  have:=IC a
  simp only[bp]at this
  simp only[bp,List.map_cons,br,this]
  rfl
theorem Bw:∀a:al,bytesOf (bp a)=some a
 | []=>rfl
 | c::a=>by
  have h:=Bw a
  simp only[bp]at h
  simp only[bp,List.map_cons,bytesOf,h]
  rw[show ((c.toNat:Int)).toNat=c.toNat from rfl,UInt8.ofNat_toNat]
theorem UW {L:al}{m:Nat}{c:UInt8}(h:m<L.length):overwrite (bp L) m [.int .u8 c.toNat]=bp (L.set m c):=by
 apply List.ext_getElem?
 intro i
 simp only[overwrite,bp,List.length_cons,List.length_nil]
 rw[←List.map_take,←List.map_drop]
 by_cases h1:i<m
 . rw[List.append_assoc,List.getElem?_append_left (by simp;omega)]
   simp[h1,show ¬m=i by omega]
 . by_cases h2:i=m
   . subst h2
     rw[List.append_assoc,List.getElem?_append_right (by simp;omega)]
     simp[List.length_take,Nat.min_eq_left (Nat.le_of_lt h),h]
   . rw[List.append_assoc,List.getElem?_append_right (by simp;omega)]
     have e:i-min m L.length=(i-m-1)+1:=by omega
     simp only[List.length_map,List.length_take,e,List.cons_append,List.nil_append,List.getElem?_cons_succ,List.map_drop,List.getElem?_drop,List.getElem?_map,List.getElem?_set,show ¬m=i by omega,if_false]
     rw[show m+(0+1)+(i-m-1)=i by omega]
section
variable {t:Nat} {x y:aN} {l:List aU} {pe:List AV} {lo:List (Nat×AV)} {hp:ae} {df wr:List Nat} {k:IntKind} {a b:Int} {Q:aq->Prop} {e:TypeId} {L:al} {m:Nat}
theorem WO.sn {c:UInt8}(hx:(St.mk pe lo [some (.cells (bp L) e)] df).aa x=some (.ptr 0 m))(hy:(St.mk pe lo [some (.cells (bp L) e)] df).aa y=some (.int .u8 c.toNat))(hi:m<L.length)
 (h:WO M l ⟨⟨pe,lo,[some (.cells (bp (L.set m c)) e)],df⟩,0::wr⟩ Q):WO M (⟨.no,.store 1 x y,none⟩::l) ⟨⟨pe,lo,[some (.cells (bp L) e)],df⟩,wr⟩ Q:=by
 refine WO.cJ (c:=bp L) (new:=[.int .u8 c.toNat]) hx (by rw[hy];rfl) rfl ⟨rfl,by rw[kL];omega,rfl⟩ (UW hi) ?_
 exact h
theorem WO.ID {n i j:Nat}{lo' hi':Option aN}(hx:(St.mk pe lo [some (.cells (bp L) e)] df).aa x=some (.ptr 0 0))(hl:L.length=n)(hlo:((St.mk pe lo [some (.cells (bp L) e)] df).cY lo').bind (fun v=>bL v 0 j)=some i)(hhi:((St.mk pe lo [some (.cells (bp L) e)] df).cY hi').bind (fun v=>bL v n n)=some j)(hij:i<n)
 (h:WO M l ⟨⟨pe,(t,.sl 0 i (j-i) 1 (some (n-i)))::lo,[some (.cells (bp L) e)],df⟩,wr⟩ Q):WO M (⟨.l t,.ic n 1 x lo' hi',none⟩::l) ⟨⟨pe,lo,[some (.cells (bp L) e)],df⟩,wr⟩ Q:=by
 refine WO.aT (v:=.sl 0 i (j-i) 1 (some (n-i))) (h':=[some (.cells (bp L) e)]) (w':=[]) ?_ rfl rfl h
 have h0:ae.at [some (bA.cells (bp L) e)] 0=some (.cells (bp L) e):=rfl
 cases ho:(St.mk pe lo [some (.cells (bp L) e)] df).cY lo' with
 | none=>rw[ho]at hlo;simp at hlo
 | some v=>
  cases ho':(St.mk pe lo [some (.cells (bp L) e)] df).cY hi' with
  | none=>rw[ho']at hhi;simp at hhi
  | some v'=>
   rw[ho]at hlo
   rw[ho']at hhi
   simp only[Option.bind_some]at hlo hhi
   simp only[bH,hx,ho,ho',h0,kL,hl,hhi,hlo,Nat.zero_add,Nat.mul_one]
   rw[if_pos (Nat.le_refl _),if_pos hij]
theorem WO.Bx {i j:Nat}{c:Option Nat}(hx:(St.mk pe lo [some (.cells (bp L) e)] df).aa x=some (.sl 0 i j 1 c))(hij:i+j<=L.length)
 (h:WO M l ⟨⟨pe,(t,.str ((L.drop i).take j))::lo,[some (.cells (bp L) e)],df⟩,wr⟩ Q):WO M (⟨.l t,.kd x,none⟩::l) ⟨⟨pe,lo,[some (.cells (bp L) e)],df⟩,wr⟩ Q:=by
 refine WO.aT (v:=.str ((L.drop i).take j)) (h':=[some (.cells (bp L) e)]) (w':=[]) ?_ rfl rfl h
 have h0:ae.at [some (bA.cells (bp L) e)] 0=some (.cells (bp L) e):=rfl
 have hc:eL [some (.cells (bp L) e)] (.sl 0 i j 1 c)=some (bp ((L.drop i).take j),j):=by
  simp only[eL,h0,cut,Nat.mul_one]
  rw[if_pos (by rw[List.length_take,List.length_drop,kL];omega)]
  simp[bp,List.map_drop,List.map_take]
 simp only[bH,hx,hc,kL,Bw]
 rw[if_pos (by simp;omega)]
theorem wrap32 {a:Int}(h:0<=a/\a<4294967296):IntKind.u32.wrap a=a:=by
 simp only[IntKind.wrap,IntKind.bits,IntKind.signed]
 simp;omega
theorem WO.wh (hx:(St.mk pe lo hp df).aa x=some (.int .u32 a))(hy:(St.mk pe lo hp df).aa y=some (.int .u32 b))(hr:0<=a+b/\a+b<4294967296)
 (h:WO M l ⟨⟨pe,(t,.int .u32 (a+b))::lo,hp,df⟩,wr⟩ Q):WO M (⟨.l t,.bin .add x y,none⟩::l) ⟨⟨pe,lo,hp,df⟩,wr⟩ Q:=
 WO.pl (v:=.int .u32 (a+b)) (by simp[aV,hx,hy,cE,wrap32 hr]) rfl h
theorem WO.By (hx:(St.mk pe lo hp df).aa x=some (.int .u32 a))(hy:(St.mk pe lo hp df).aa y=some (.int .u32 b))(hr:0<=a*b/\a*b<4294967296)
 (h:WO M l ⟨⟨pe,(t,.int .u32 (a*b))::lo,hp,df⟩,wr⟩ Q):WO M (⟨.l t,.bin .mul x y,none⟩::l) ⟨⟨pe,lo,hp,df⟩,wr⟩ Q:=
 WO.pl (v:=.int .u32 (a*b)) (by simp[aV,hx,hy,cE,wrap32 hr]) rfl h
theorem WO.Bz (hx:(St.mk pe lo hp df).aa x=some (.int .u32 a))(hy:(St.mk pe lo hp df).aa y=some (.int .u32 b))(ha:0<=a/\a<4294967296)(hb:0<b)
 (h:WO M l ⟨⟨pe,(t,.int .u32 (a/b))::lo,hp,df⟩,wr⟩ Q):WO M (⟨.l t,.bin .quo x y,none⟩::l) ⟨⟨pe,lo,hp,df⟩,wr⟩ Q:=by
 refine WO.pl (v:=.int .u32 (a/b)) ?_ rfl h
 have h1:0<=a/b:=Int.ediv_nonneg ha.1 (Int.le_of_lt hb)
 have h2:a/b<=a:=Int.ediv_le_self _ ha.1
 have h3:¬b=0:=by omega
 simp only[aV,hx,hy,cE,if_true,if_neg h3]
 rw[Int.tdiv_eq_ediv_of_nonneg ha.1,wrap32 ⟨h1,by omega⟩]
theorem WO.BA (hx:(St.mk pe lo hp df).aa x=some (.int .u32 a))(hy:(St.mk pe lo hp df).aa y=some (.int .u32 b))(ha:0<=a)(hb:0<b)
 (h:WO M l ⟨⟨pe,(t,.int .u32 (a%b))::lo,hp,df⟩,wr⟩ Q):WO M (⟨.l t,.bin .rem x y,none⟩::l) ⟨⟨pe,lo,hp,df⟩,wr⟩ Q:=by
 refine WO.pl (v:=.int .u32 (a%b)) ?_ rfl h
 have h3:¬b=0:=by omega
 simp only[aV,hx,hy,cE,if_true,if_neg h3]
 rw[Int.tmod_eq_emod_of_nonneg ha]
theorem WO.IE (hx:(St.mk pe lo hp df).aa x=some (.int k a))(hr:0<=a/\a<4294967296)(h:WO M l ⟨⟨pe,(t,.int .u32 a)::lo,hp,df⟩,wr⟩ Q):WO M (⟨.l t,.du .u32 x,none⟩::l) ⟨⟨pe,lo,hp,df⟩,wr⟩ Q:=
 WO.pl (v:=.int .u32 a) (by simp only[aV,hx,Option.bind_some,kQ,wrap32 hr]) rfl h
theorem WO.UX (hx:(St.mk pe lo hp df).aa x=some (.iV a))
 (h:WO M l ⟨⟨pe,(t,.iV (a/262144))::lo,hp,df⟩,wr⟩ Q):WO M (⟨.l t,.bin .shr x (.c (.int k 18)),none⟩::l) ⟨⟨pe,lo,hp,df⟩,wr⟩ Q:=by
 refine WO.op (WP.pure (v:=.iV (a/262144)) rfl ?_ h)
 have:a.fdiv (2^min (Int.toNat 18) IntKind.i64.bits)=a/262144:=by
  show a.fdiv 262144=a/262144
  rw[Int.fdiv_eq_ediv_of_nonneg _ (by omega)]
 have e:(St.mk pe lo hp df).aa (.c (.int k 18))=some (.int k 18):=rfl
 simp only[aV,hx,e,cE,this]
 rfl
end
theorem UY (hft:M.FT=FT)(x:Int)(hx:0<=x/\x<=64):aZ M 324 [.iV x] [] ⟨.iV (x*78913/262144),[],[]⟩:=by
 refine bT (by rw[hft];exact UO) (by simp) ?_
 unfold Iu
 simp only[enter]
 repeat' first|(apply WO.UX;rfl)|apply W.seq|apply ab|apply W.region|apply WO.nil|apply W.ret|(apply WO.mul;rfl;rfl;omega)|(apply WO.pl;rfl;rfl)|(apply WO.pp;rfl;rfl)
 all_goals exact⟨.inr rfl,rfl,_,rfl,rfl,rfl⟩
theorem UZ (hft:M.FT=FT)(x:Bool):aZ M 325 [.bool x] [] ⟨.iV (if x then 1 else 0),[],[]⟩:=by
 refine bT (by rw[hft];exact UP) (by simp) ?_
 unfold Iv
 simp only[enter]
 cases x
 all_goals
 . repeat' first|apply W.seq|apply ab|apply W.region|apply WO.nil|apply W.ret|apply W.skip|apply ba|(apply W.ax;rfl)|(apply W.aw;rfl)|(apply WO.pl;rfl;rfl)|(apply WO.pp;rfl;rfl)
   all_goals exact⟨.inr rfl,rfl,_,rfl,rfl,rfl⟩
theorem Va (bl:Fin 65):1<=bl.val->bl.val*78913/262144<20/\(bl.val*78913/262144=0\/10^(bl.val*78913/262144-1)<=2^(bl.val-1))/\2^bl.val<=10^(bl.val*78913/262144+1):=by
 revert bl;decide +kernel
def fD (d:Int):Nat:=if (10:Int)^(cd d*78913/262144)<=d then cd d*78913/262144+1 else cd d*78913/262144
theorem wi {d:Nat}(h:0<d/\d<18446744073709551616):1<=fD d/\fD d<=20/\d<10^fD d/\(fD d=1\/10^(fD d-1)<=d):=by
 obtain⟨h1,h2,h3⟩:=pB (x:=(d:Int)) (by omega)
 have h4:=nt (x:=(d:Int)) (n:=64) (by show (d:Int)<18446744073709551616;omega) (by omega)
 obtain⟨g0,g1,g2⟩:=Va ⟨cd d,by omega⟩ h1
 simp only at g0 g1 g2
 have h2:2^(cd (d:Int)-1)<=d:=by exact_mod_cast h2
 have h3:d<2^cd (d:Int):=by exact_mod_cast h3
 unfold fD
 obtain⟨n,hn⟩:∃n,n=cd (d:Int)*78913/262144:=⟨_,rfl⟩
 rw[←hn]at g0 g1 g2 ⊢
 by_cases hc:(10:Int)^n<=d
 . rw[if_pos hc]
   have hc:10^n<=d:=by exact_mod_cast hc
   exact⟨by omega,by omega,by omega,.inr (by rw[Nat.add_sub_cancel];exact hc)⟩
 . rw[if_neg hc]
   have hc:d<10^n:=by
    rcases Nat.lt_or_ge d (10^n) with h|h
    . exact h
    . exact absurd (by exact_mod_cast h) hc
   have hn0:n≠0:=by
    rintro rfl
    simp at hc
    omega
   refine⟨by omega,by omega,hc,?_⟩
   rcases g1 with g1|g1
   . omega
   . exact .inr (by omega)
def nH:List AV:=[.uV (1),.uV (10),.uV (100),.uV (1000),.uV (10000),.uV (100000),.uV (1000000),.uV (10000000),.uV (100000000),.uV (1000000000),.uV (10000000000),.uV (100000000000),.uV (1000000000000),.uV (10000000000000),.uV (100000000000000),.uV (1000000000000000),.uV (10000000000000000),.uV (100000000000000000),.uV (1000000000000000000),.uV (10000000000000000000)]
theorem Vb:∀k:Nat,k<20->partOf (nH.drop (k*1)) 0 1 false=some (.uV (10^k))
 | 0,_=>rfl|1,_=>rfl|2,_=>rfl|3,_=>rfl|4,_=>rfl|5,_=>rfl|6,_=>rfl|7,_=>rfl|8,_=>rfl|9,_=>rfl
 | 10,_=>rfl|11,_=>rfl|12,_=>rfl|13,_=>rfl|14,_=>rfl|15,_=>rfl|16,_=>rfl|17,_=>rfl|18,_=>rfl|19,_=>rfl
 | k+20,h=>by omega
theorem WO.Vc {t:Nat}{i:aN}{l:List aU}{pe:List AV}{lo:List (Nat×AV)}{hp:ae}{df wr:List Nat}{k:IntKind}{n:Int}{Q:aq->Prop}(hy:(St.mk pe lo hp df).aa i=some (.int k n))(hb:0<=n/\n<20)
 (h:WO M l ⟨⟨pe,(t,.vp (nH.drop (n.toNat*1)))::lo,hp,df⟩,wr⟩ Q):WO M (⟨.l t,.dw (some 20) 1 (.c (.vp nH)) i,none⟩::l) ⟨⟨pe,lo,hp,df⟩,wr⟩ Q:=
 WO.op (WP.pure (v:=.vp (nH.drop (n.toNat*1))) rfl (by
  have e:(St.mk pe lo hp df).aa (.c (.vp nH))=some (.vp nH):=rfl
  have h2:0<=n/\n<((20:Nat):Int):=hb
  simp only[aV,e,hy,mD,if_pos h2]) h)
theorem WO.Vd {t:Nat}{x:aN}{l:List aU}{pe:List AV}{lo:List (Nat×AV)}{hp:ae}{df wr:List Nat}{n:Nat}{Q:aq->Prop}(hx:(St.mk pe lo hp df).aa x=some (.vp (nH.drop (n*1))))(hb:n<20)
 (h:WO M l ⟨⟨pe,(t,.uV (10^n))::lo,hp,df⟩,wr⟩ Q):WO M (⟨.l t,.load 1 false x,none⟩::l) ⟨⟨pe,lo,hp,df⟩,wr⟩ Q:=
 WO.aT (v:=.uV (10^n)) (h':=hp) (w':=[]) (by simp only[bH,hx,Option.bind_some,fj,Vb n hb]) rfl rfl h
structure IF (M:aO):Prop where
 ft:M.FT=FT
 pC:∀(x:Int) h,(0<=x/\x<18446744073709551616)->M.ext 240 [.uV x] h=some ⟨.iV (cd x),h,[]⟩
 IG:∀(x:Int) h,(0<=x/\x<=64)->M.ext 324 [.iV x] h=some ⟨.iV (x*78913/262144),h,[]⟩
 BB:∀(x:Bool) h,M.ext 325 [.bool x] h=some ⟨.iV (if x then 1 else 0),h,[]⟩
theorem Ve (C:IF M)(d:Int)(hd:0<d/\d<18446744073709551616):aZ M 305 [.uV d] [] ⟨.iV (fD d),[],[]⟩:=by
 have h4:=nt (x:=d) (n:=64) (by exact hd.2) (by omega)
 have q240:=fun h=>C.pC d h ⟨by omega,hd.2⟩
 have q324:=fun h=>C.IG (cd d) h ⟨by omega,by omega⟩
 have q325a:=fun h=>C.BB true h
 have q325b:=fun h=>C.BB false h
 simp only[if_true]at q325a
 simp only[Bool.false_eq_true,if_false]at q325b
 obtain⟨n,hn⟩:∃n,n=cd d*78913/262144:=⟨_,rfl⟩
 have e1:((cd d:Int)*78913/262144)=(n:Int):=by rw[hn];omega
 rw[e1]at q324
 have hn20:n<20:=by omega
 have e2:fD d=if (10:Int)^n<=d then n+1 else n:=by unfold fD;rw[←hn]
 rw[e2]
 refine bT (by rw[C.ft];exact UK) (by simp) ?_
 unfold Iq
 simp only[enter]
 repeat' first|(apply WO.Vc;rfl;omega)|(apply WO.Vd (n:=n);rfl;exact hn20)|apply W.seq|apply ab|apply W.region|apply WO.nil|apply W.ret|(apply WO.geq;rfl;rfl)|(apply WO.add;rfl;rfl;omega)|(apply WO.ay;rfl;rfl;first|exact q240 _|exact q324 _|exact q325a _|exact q325b _)|(apply WO.pl;rfl;rfl)|(apply WO.pp;rfl;rfl)|(intro _;omega)|intro _
 all_goals try omega
 . rename_i h1
   rw[if_pos h1]
   exact⟨.inr rfl,rfl,_,rfl,rfl,rfl⟩
 . rename_i h1
   rw[if_neg (by omega)]
   exact⟨.inr rfl,rfl,_,rfl,by simp[bg],rfl⟩
def iM:al:=[48,48,48,49,48,50,48,51,48,52,48,53,48,54,48,55,48,56,48,57,49,48,49,49,49,50,49,51,49,52,49,53,49,54,49,55,49,56,49,57,50,48,50,49,50,50,50,51,50,52,50,53,50,54,50,55,50,56,50,57,51,48,51,49,51,50,51,51,51,52,51,53,51,54,51,55,51,56,51,57,52,48,52,49,52,50,52,51,52,52,52,53,52,54,52,55,52,56,52,57,53,48,53,49,53,50,53,51,53,52,53,53,53,54,53,55,53,56,53,57,54,48,54,49,54,50,54,51,54,52,54,53,54,54,54,55,54,56,54,57,55,48,55,49,55,50,55,51,55,52,55,53,55,54,55,55,55,56,55,57,56,48,56,49,56,50,56,51,56,52,56,53,56,54,56,55,56,56,56,57,57,48,57,49,57,50,57,51,57,52,57,53,57,54,57,55,57,56,57,57]
theorem wj:iM.length=200:=by decide +kernel
theorem IH:∀x:Fin 100,iM[x.val*2]! = fe (x.val/10)/\iM[x.val*2+1]! = fe (x.val%10):=by decide +kernel
theorem Vf {x:Int}(h:0<=x/\x<100):iM[(x*2).toNat]! = fe (x.toNat/10):=by
 obtain⟨k,rfl⟩:=Int.eq_ofNat_of_zero_le h.1
 have:=(IH ⟨k,by omega⟩).1
 rw[show ((k:Int)*2).toNat=k*2 by omega]
 exact this
theorem Vg {x:Int}(h:0<=x/\x<100):iM[(x*2+1).toNat]! = fe (x.toNat%10):=by
 obtain⟨k,rfl⟩:=Int.eq_ofNat_of_zero_le h.1
 have:=(IH ⟨k,by omega⟩).2
 rw[show ((k:Int)*2+1).toNat=k*2+1 by omega]
 exact this
end Go.Ab.Ch1

/-
  Own work: decimal texts of machine integers: numbers below a hundred; the digits of a number written into a block.
-/
namespace Go.Ab.Ch1
open Go.Ab.bz
variable {M:aO} {cap:Option Nat}
def wk:al:=[48,49,50,51,52,53,54,55,56,57,97,98,99,100,101,102,103,104,105,106,107,108,109,110,111,112,113,114,115,116,117,118,119,120,121,122]
theorem Vh:∀x:Fin 10,(wk.drop x.val).take (x.val+1-x.val)=bh x.val:=by
 intro x
 rw[gN x.isLt]
 revert x;decide +kernel
theorem Vi:∀x:Fin 100,10<=x.val->(iM.drop (x.val*2)).take (x.val*2+2-x.val*2)=bh x.val:=by
 intro x h
 rw[jA (by omega),gN (by omega)]
 revert x;decide +kernel
theorem WO.II {t:Nat}{x y z:aN}{l:List aU}{pe:List AV}{lo:List (Nat×AV)}{hp:ae}{df wr:List Nat}{k k':IntKind}{s:al}{a b:Int}{Q:aq->Prop}(hx:(St.mk pe lo hp df).aa x=some (.str s))(hy:(St.mk pe lo hp df).aa y=some (.int k a))(hz:(St.mk pe lo hp df).aa z=some (.int k' b))(hb:0<=a/\a<=b/\b<=s.length){r:al}(hr:(s.drop a.toNat).take (b.toNat-a.toNat)=r)
 (h:WO M l ⟨⟨pe,(t,.str r)::lo,hp,df⟩,wr⟩ Q):WO M (⟨.l t,.slice .str 1 x (some y) (some z) none,none⟩::l) ⟨⟨pe,lo,hp,df⟩,wr⟩ Q:=by
 subst hr
 refine WO.pl (v:=.str ((s.drop a.toNat).take (b.toNat-a.toNat))) ?_ rfl h
 simp only[aV,hx,St.cY,hy,hz,Option.map_some,jD,bL]
 have h1:0<=b/\b<=((s.length:Nat):Int):=⟨by omega,hb.2.2⟩
 have h2:0<=a/\a<=((b.toNat:Nat):Int):=⟨hb.1,by omega⟩
 simp only[if_pos h1,if_pos h2]
 rfl
set_option maxRecDepth 100000 in
theorem Vj (hft:M.FT=FT)(n:Nat)(hn:n<100):aZ M 304 [.iV n] [] ⟨.str (bh n),[],[]⟩:=by
 have e1:(n:Int).toNat=n:=rfl
 refine bT (by rw[hft];exact UI) (by simp) ?_
 unfold Io
 simp only[enter]
 by_cases h:n<10
 . have hc:(wk.drop (n:Int).toNat).take (((n:Int)+1).toNat-(n:Int).toNat)=bh n:=by rw[show ((n:Int)+1).toNat=n+1 by omega];exact Vh ⟨n,h⟩
   have l1:wk.length=36:=rfl
   repeat' first|(apply WO.II (s:=wk);rfl;rfl;rfl;omega;exact hc)|apply W.seq|apply ab|apply W.region|apply WO.nil|apply W.ret|apply ba|(apply W.ax;rfl)|(apply WO.lss;rfl;rfl)|(apply WO.add;rfl;rfl;omega)|(apply WO.pl;rfl;rfl)|(apply WO.pp;rfl;rfl)|(intro _;omega)|intro _
   all_goals try omega
   all_goals exact⟨.inr rfl,rfl,_,rfl,rfl,rfl⟩
 . have hc:(iM.drop ((n:Int)*2).toNat).take (((n:Int)*2+2).toNat-((n:Int)*2).toNat)=bh n:=by rw[show ((n:Int)*2+2).toNat=n*2+2 by omega,show ((n:Int)*2).toNat=n*2 by omega];exact Vi ⟨n,hn⟩ (by simp only;omega)
   have l1:=wj
   repeat' first|(apply WO.II (s:=iM);rfl;rfl;rfl;omega;exact hc)|apply W.seq|apply ab|apply W.region|apply WO.nil|apply W.ret|apply W.skip|(apply W.aw;rfl)|(apply WO.lss;rfl;rfl)|(apply WO.add;rfl;rfl;omega)|(apply WO.mul;rfl;rfl;omega)|(apply WO.pl;rfl;rfl)|(apply WO.pp;rfl;rfl)|(intro _;omega)|intro _
   all_goals try omega
   all_goals exact⟨.inr rfl,rfl,_,rfl,rfl,rfl⟩
def fw (L:al)(off n i u:Nat):Prop:=L.length=24/\∀j,i<=j->j<n->L[off+j]! = fe (u/10^(n-1-j)%10)
theorem BC {L:al}{i k:Nat}{v:UInt8}(h:i<L.length):(L.set i v)[k]! = if k=i then v else L[k]! := by
 simp only[List.getElem!_eq_getElem?_getD,List.getElem?_set]
 by_cases hk:k=i
 . subst hk;simp[h]
 . simp[hk,show ¬i=k from fun e=>hk e.symm]
theorem fw.two {L:al}{off n i u:Nat}{a b:Nat}{c d:UInt8}(h:fw L off n (i+2) u)(hn:off+n<=24)(hi:i+2<=n)(ha:a=off+i+1)(hb:b=off+i)(hc:c=fe (u/10^(n-(i+2))%10))(hd:d=fe (u/10^(n-(i+2))/10%10)):fw ((L.set a c).set b d) off n i u:=by
 subst ha;subst hb
 refine⟨by simp[h.1],fun j h1 h2=>?_⟩
 rw[BC (by rw[List.length_set,h.1];omega),BC (by rw[h.1];omega)]
 by_cases e1:j=i
 . subst e1
   rw[if_pos rfl,hd,Nat.div_div_eq_div_mul,←Nat.pow_succ,show (n-(j+2)).succ=n-1-j by omega]
 . by_cases e2:j=i+1
   . subst e2
     rw[if_neg (by omega),if_pos (by omega),hc,show n-(i+2)=n-1-(i+1) by omega]
   . rw[if_neg (by omega),if_neg (by omega)]
     exact h.2 j (by omega) h2
theorem fw.fin {L:al}{off n u:Nat}(h:fw L off n 0 u)(hn:off+n<=24):(L.drop off).take n=dG n u:=by
 refine UR (by rw[List.length_take,List.length_drop,h.1];omega) fun j hj=>?_
 rw[←h.2 j (Nat.zero_le _) hj]
 simp only[List.getElem!_eq_getElem?_getD,List.getElem?_take,if_pos hj,List.getElem?_drop]
end Go.Ab.Ch1

/-
  Own work: decimal texts of machine integers: eight digits at once.
-/
namespace Go.Ab.Ch1
open Go.Ab.bz
variable {M:aO} {cap:Option Nat} {e:TypeId}
theorem nI {u n j:Nat}(hj:j+2<=n):u/10^(n-j)=u/10^(n-(j+2))/100:=by
 rw[Nat.div_div_eq_div_mul,show (100:Nat)=10^2 by rfl,←Nat.pow_add,show n-(j+2)+2=n-j by omega]
theorem fw.mg {L:al}{off n i u U:Nat}{a b:Nat}{x y:Int}(h:fw L off n (i+2) u)(hn:off+n<=24)(hi:i+2<=n)(hU:U=u/10^(n-(i+2)))(ha:a=off+i+1)(hb:b=off+i)(hx:x=(U%100:Nat)*2+1)(hy:y=(U%100:Nat)*2):fw ((L.set a iM[x.toNat]!).set b iM[y.toNat]!) off n i u:=by
 subst hx;subst hy
 refine h.two hn hi ha hb ?_ ?_
 . rw[Vg (by omega),←hU]
   congr 1;omega
 . rw[Vf (by omega),←hU]
   congr 1;omega
set_option maxRecDepth 100000 in
theorem Vk (off n u0:Nat)(hn:off+n<=24)(hu:u0<18446744073709551616){Q:Ex->aq->Prop}(a10 a11 a12 a13 a14:AV)
 (hQ:∀L i a3 a4 a5 a6 a7 a8 a9 lo wr,i<=n->i<8->fw L off n i u0->gA 0 wr->Q (.exit 0) ⟨⟨[.sl 0 off n 1 cap,.uV ((u0/10^(n-i):Nat):Int),.iV (i:Nat),a3,a4,a5,a6,a7,a8,a9,a10,a11,a12,a13,a14],lo,[some (.cells (bp L) e)],[]⟩,wr⟩)
 (L:al) (i:Nat) (a3 a4 a5 a6 a7 a8 a9:AV) (lo:List (Nat×AV)) (wr:List Nat) (hi:i<=n) (hL:fw L off n i u0) (hw:gA 0 wr) :
 W M (.loop vY) ⟨⟨[.sl 0 off n 1 cap,.uV ((u0/10^(n-i):Nat):Int),.iV (i:Nat),a3,a4,a5,a6,a7,a8,a9,a10,a11,a12,a13,a14],lo,[some (.cells (bp L) e)],[]⟩,wr⟩ Q:=by
 refine W.ij (fun m s=>∃L U iv a3 a4 a5 a6 a7 a8 a9 lo wr,s=⟨⟨[.sl 0 off n 1 cap,.uV U,.iV iv,a3,a4,a5,a6,a7,a8,a9,a10,a11,a12,a13,a14],lo,[some (.cells (bp L) e)],[]⟩,wr⟩/\U=((u0/10^(n-m):Nat):Int)/\iv=(m:Int)/\m<=n/\fw L off n m u0/\gA 0 wr)
  (fun m s ⟨L,U,iv,a3,a4,a5,a6,a7,a8,a9,lo,wr,hs,hU,hiv,hm,hL,hw⟩=>?_) (m:=i) ⟨L,_,_,a3,a4,a5,a6,a7,a8,a9,lo,wr,rfl,rfl,rfl,hi,hL,hw⟩
 subst hs;subst hU;subst hiv
 have hl:=hL.1
 have sl:=wj
 have hUle:u0/10^(n-m)<=u0:=Nat.div_le_self _ _
 by_cases h8:m<8
 . unfold vY
   repeat' first|apply W.seq|apply ab|apply W.region|apply WO.nil|apply W.exit|apply cj|apply eA|(apply W.aw;rfl)|(apply WO.geq;rfl;rfl)|(apply WO.pl;rfl;rfl)|(intro _;omega)|intro _
   all_goals try omega
   all_goals exact hQ _ _ _ _ _ _ _ _ _ _ _ hm h8 hL hw
 . obtain⟨j,rfl⟩:∃j,m=j+8:=⟨m-8,by omega⟩
   have s1:=nI (u:=u0) (n:=n) (j:=j+6) (by omega)
   have s2:=nI (u:=u0) (n:=n) (j:=j+4) (by omega)
   have s3:=nI (u:=u0) (n:=n) (j:=j+2) (by omega)
   have s4:=nI (u:=u0) (n:=n) (j:=j) (by omega)
   obtain⟨U,hU⟩:∃U,U=u0/10^(n-(j+8)):=⟨_,rfl⟩
   rw[show j+6+2=j+8 by omega,←hU]at s1
   rw[show j+4+2=j+6 by omega,s1]at s2
   rw[show j+2+2=j+4 by omega,s2]at s3
   rw[s3]at s4
   rw[←hU]at hUle ⊢
   unfold vY
   repeat' first|(apply WO.sn;rfl;rfl;(first|omega|(simp only[List.length_set];omega)))|(apply WO.FX;rfl;rfl;omega;omega)|(apply WO.uv;rfl;rfl;omega;omega)|(apply WO.IE;rfl;omega)|(apply WO.Bz;rfl;rfl;omega;omega)|(apply WO.BA;rfl;rfl;omega;omega)|(apply WO.By;rfl;rfl;omega)|(apply WO.wh;rfl;rfl;omega)|(apply WO.idx (s:=iM);rfl;rfl;omega)|apply W.seq|apply ab|apply W.region|apply WO.nil|apply W.block|apply W.skip|apply bK|apply W.draw|apply WD.nil|(apply WD.dE;rfl)|(apply WD.eh;rfl;(first|(simp only[nca];rfl)|rfl);(first|(simp only[nca];rfl)|rfl))|(apply W.ax;rfl)|(apply WO.geq;rfl;rfl)|(apply WO.sub;rfl;rfl;omega)|(apply WO.bY;rfl;rfl;omega)|(apply WO.pl;rfl;rfl)|(apply WO.pp;rfl;rfl)|(intro _;omega)|intro _
   all_goals try omega
   refine ek ⟨j,by omega,_,_,_,_,_,_,_,_,_,_,_,_,rfl,?_,?_,by omega,?_,?_⟩
   . rw[s4];omega
   . omega
   . have g1:=fw.mg (L:=L) (i:=j+6) (U:=U) (a:=off+(((j+8:Nat):Int)-1).toNat*1) (b:=off+(((j+8:Nat):Int)-2).toNat*1) hL hn (by omega) hU (by omega) (by omega) rfl rfl
     refine fw.mg (U:=U/100/100/100) (fw.mg (i:=j+2) (U:=U/100/100) (fw.mg (i:=j+4) (U:=U/100) (fw.mg (i:=j+6) (U:=U) hL hn (by omega) hU ?_ ?_ ?_ ?_) hn (by omega) s1.symm ?_ ?_ ?_ ?_) hn (by omega) s2.symm ?_ ?_ ?_ ?_) hn (by omega) s3.symm ?_ ?_ ?_ ?_
     all_goals omega
   . exact .cons (.cons (.cons (.cons (.cons (.cons (.cons (.cons hw)))))))
end Go.Ab.Ch1

/-
  Own work: decimal texts of machine integers: the digits of a number, as many as a slice has room for.
-/
namespace Go.Ab.Ch1
open Go.Ab.bz
variable {M:aO} {cap:Option Nat} {e:TypeId}
set_option maxRecDepth 100000
def sr:ak:=
 .seq (
       .region [zm 160 2,
         zc 161 .gtr 160 0])
       (
        .cond (.l 161)
        (.region [zm 162 0,
          zm 163 10,
          ⟨(.l 164),.bin .add (kW 48) (.l 163),none⟩,
          ⟨(.l 165),.du .u8 (.l 164),none⟩,
          ⟨(.l 166),.dw none 1 (.l 162) (kI 0),none⟩,
          zS 1 166 165])
        (.skip))
def wm:ak:=
 .seq (
       .region [zm 138 2,
         zc 139 .geq 138 2])
       (
        .cond (.l 139)
        (
         .seq (.region [zm 140 10,
           ⟨(.l 141),.bin .rem (.l 140) (kW 100),none⟩,
           ⟨(.l 142),.bin .mul (.l 141) (kW 2),none⟩,
           zw 14 142])
         (
          .seq (.region [zm 143 10,
            ⟨(.l 144),.bin .quo (.l 143) (kW 100),none⟩,
            zw 10 144])
          (
           .seq (.draw [(zm 145 0,[]),
             (zm 146 2,[0]),
             (zc 147 .sub 146 1,[0]),
             (zm 148 0,[0,1,2]),
             (zm 149 2,[0,1,2,3]),
             (zc 150 .sub 149 2,[0,1,2,3]),
             (zm 151 14,[0,1,2,3,4,5]),
             (⟨(.l 152),.bin .add (.l 151) (kW 1),none⟩,[0,1,2,3,4,5]),
             (⟨(.l 153),.index (.c (.str zD1)) (.l 152),none⟩,[0,1,2,3,4,5]),
             (zm 154 14,[0,1,2,3,4,5,6,7,8]),
             (⟨(.l 155),.index (.c (.str zD1)) (.l 154),none⟩,[0,1,2,3,4,5,6,7,8]),
             (za 156 1 145 147,[3,4,5,9,10]),
             (zS 1 156 153,[3,4,5,9,10]),
             (za 157 1 148 150,[]),
             (zS 1 157 155,[])])
           (.region [zm 158 2,
             zc 159 .sub 158 2,
             zw 2 159]))))
        (.skip))
def BD:ak:=
 .seq (.region [zm 98 2,
        zc 99 .geq 98 4])
      (
       .cond (.l 99)
       (
        .seq (.region [zm 100 10,
          ⟨(.l 101),.bin .rem (.l 100) (kW 10000),none⟩,
          zw 11 101])
        (
         .seq (.region [zm 102 10,
           ⟨(.l 103),.bin .quo (.l 102) (kW 10000),none⟩,
           zw 10 103])
         (
          .seq (.region [zm 104 11,
            ⟨(.l 105),.bin .quo (.l 104) (kW 100),none⟩,
            ⟨(.l 106),.bin .mul (.l 105) (kW 2),none⟩,
            zm 107 11,
            ⟨(.l 108),.bin .rem (.l 107) (kW 100),none⟩,
            ⟨(.l 109),.bin .mul (.l 108) (kW 2),none⟩,
            zw 12 106,
            zw 13 109])
          (
           .seq (.draw [(zm 110 0,[]),
             (zm 111 2,[0]),
             (zc 112 .sub 111 1,[0]),
             (zm 113 0,[0,1,2]),
             (zm 114 2,[0,1,2,3]),
             (zc 115 .sub 114 2,[0,1,2,3]),
             (zm 116 13,[0,1,2,3,4,5]),
             (⟨(.l 117),.bin .add (.l 116) (kW 1),none⟩,[0,1,2,3,4,5]),
             (⟨(.l 118),.index (.c (.str zD1)) (.l 117),none⟩,[0,1,2,3,4,5]),
             (zm 119 13,[0,1,2,3,4,5,6,7,8]),
             (⟨(.l 120),.index (.c (.str zD1)) (.l 119),none⟩,[0,1,2,3,4,5,6,7,8]),
             (za 121 1 110 112,[3,4,5,9,10]),
             (zS 1 121 118,[3,4,5,9,10]),
             (za 122 1 113 115,[]),
             (zS 1 122 120,[])])
           (
            .seq (.draw [(zm 123 0,[]),
              (zm 124 2,[0]),
              (zc 125 .sub 124 3,[0]),
              (zm 126 0,[0,1,2]),
              (zm 127 2,[0,1,2,3]),
              (zc 128 .sub 127 4,[0,1,2,3]),
              (zm 129 12,[0,1,2,3,4,5]),
              (⟨(.l 130),.bin .add (.l 129) (kW 1),none⟩,[0,1,2,3,4,5]),
              (⟨(.l 131),.index (.c (.str zD1)) (.l 130),none⟩,[0,1,2,3,4,5]),
              (zm 132 12,[0,1,2,3,4,5,6,7,8]),
              (⟨(.l 133),.index (.c (.str zD1)) (.l 132),none⟩,[0,1,2,3,4,5,6,7,8]),
              (za 134 1 123 125,[3,4,5,9,10]),
              (zS 1 134 131,[3,4,5,9,10]),
              (za 135 1 126 128,[]),
              (zS 1 135 133,[])])
            (.region [zm 136 2,
              zc 137 .sub 136 4,
              zw 2 137]))))))
       (.skip))
theorem Vl {g N:Nat}{aP:List Nat}{body:ak}{ars:List AV}{L:al}{P:al->Prop}(hft:M.FT g=some ⟨N,aP,[],body⟩)(hN:ars.length<=N)
 (hW:W M body ⟨⟨aP.map (fun t=>(ars[t]?).getD cF),[],[some (.cells (bp L) e)],[]⟩,[]⟩ fun x s=>(x = .normal\/x = .ret)/\s.s.bU=[]/\∃L',s.s.hp=[some (.cells (bp L') e)]/\gA 0 s.wr/\P L') :
 ∃L' wr,gA 0 wr/\P L'/\aZ M g ars [some (.cells (bp L) e)] ⟨.ao [],[some (.cells (bp L') e)],wr⟩:=by
 obtain⟨⟨n,x,s,h1,h2,h3,L',h4,h5,h6⟩⟩:=hW
 have hb:0<([some (.cells (bp L) e)]:ae).length:=Nat.zero_lt_one
 have hh:s.s.hp=ae.put [some (.cells (bp L) e)] 0 (some (.cells (bp L') e)):=h4
 obtain⟨wr,hw,hr⟩:=OW (c0:=bp L) hb hh h5 (IC L')
 exact⟨L',wr,hw,h6,uk hft hN ⟨⟨n,x,s,h1,h2,h3,[],rfl,hr⟩⟩⟩
def BE (e:TypeId)(off n u0:Nat)(x:Ex)(s:aq):Prop:=(x = .normal\/x = .ret)/\s.s.bU=[]/\∃L',s.s.hp=[some (.cells (bp L') e)]/\gA 0 s.wr/\fw L' off n 0 u0
theorem wq {u n i:Nat}(h:u<10^n)(hi:i<=n):u/10^(n-i)<10^i:=by
 refine Nat.div_lt_of_lt_mul ?_
 rw[←Nat.pow_add,show n-i+i=n by omega];exact h
def BF (L:al)(off n u0:Nat)(k:Nat)(iv U:Int)(wr:List Nat):Prop:=∃i:Nat,i<k/\i<=n/\iv=(i:Int)/\U=((u0/10^(n-i):Nat):Int)/\fw L off n i u0/\gA 0 wr
theorem IJ {off n u0:Nat}(hn:off+n<=24)(hlt:u0<10^n){L:al}{iv U:Int}{a1 a3 a4 a5 a6 a7 a8 a9 a11 a12 a13 a14:AV}{lo:List (Nat×AV)}{wr:List Nat}(h:BF L off n u0 2 iv U wr) :
 W M sr ⟨⟨[.sl 0 off n 1 cap,a1,.iV iv,a3,a4,a5,a6,a7,a8,a9,.int .u32 U,a11,a12,a13,a14],lo,[some (.cells (bp L) e)],[]⟩,wr⟩ (BE e off n u0):=by
 obtain⟨i,hi,hin,rfl,hU,hL,hw⟩:=h
 have hl:=hL.1
 have hr:=wq hlt hin
 obtain⟨V,hV⟩:∃V,V=u0/10^(n-i):=⟨_,rfl⟩
 rw[←hV]at hU hr
 subst hU
 by_cases h1:i=1
 . subst h1
   have hV10:V<10:=by simpa using hr
   have hd:(fe V).toNat=48+V:=pR hV10
   unfold sr
   repeat' first|(apply WO.sn (c:=fe V);rfl;exact(congrArg (fun z:Int=>some (AV.int .u8 z)) (show (48+(V:Int))%256=((fe V).toNat:Int) by rw[hd];omega));omega)|(apply WO.wh;rfl;rfl;omega)|(apply WO.Ga;rfl)|apply W.seq|apply ab|apply W.region|apply WO.nil|(apply W.ax;rfl)|(apply WO.gtr;rfl;rfl)|(apply WO.bY;rfl;rfl;omega)|(apply WO.pl;rfl;rfl)|(intro _;omega)|intro _
   all_goals try omega
   refine⟨.inl rfl,rfl,_,rfl,.cons hw,by simp[hl],fun j h1 h2=>?_⟩
   rw[BC (by omega)]
   by_cases hj:j=0
   . subst hj
     rw[if_pos (by omega),show n-1-0=n-1 by omega,←hV,Nat.mod_eq_of_lt hV10]
   . rw[if_neg (by omega)]
     exact hL.2 j (by omega) h2
 . obtain rfl:i=0:=by omega
   unfold sr
   repeat' first|apply W.seq|apply ab|apply W.region|apply WO.nil|apply W.skip|(apply W.aw;rfl)|(apply WO.gtr;rfl;rfl)|(apply WO.pl;rfl;rfl)|(intro _;omega)|intro _
   all_goals try omega
   exact⟨.inl rfl,rfl,_,rfl,hw,hL⟩
theorem IK {off n u0:Nat}(hn:off+n<=24)(hlt:u0<10^n){L:al}{iv U:Int}{a1 a3 a4 a5 a6 a7 a8 a9 a11 a12 a13 a14:AV}{lo:List (Nat×AV)}{wr:List Nat}(h:BF L off n u0 4 iv U wr) :
 W M (.seq wm sr) ⟨⟨[.sl 0 off n 1 cap,a1,.iV iv,a3,a4,a5,a6,a7,a8,a9,.int .u32 U,a11,a12,a13,a14],lo,[some (.cells (bp L) e)],[]⟩,wr⟩ (BE e off n u0):=by
 obtain⟨i,hi,hin,rfl,hU,hL,hw⟩:=h
 have hl:=hL.1
 have sl:=wj
 have hr:=wq hlt hin
 by_cases h1:2<=i
 . obtain⟨j,rfl⟩:∃j,i=j+2:=⟨i-2,by omega⟩
   have s1:=nI (u:=u0) (n:=n) (j:=j) hin
   obtain⟨V,hV⟩:∃V,V=u0/10^(n-(j+2)):=⟨_,rfl⟩
   rw[←hV]at hU hr s1
   have hV4:V<10000:=Nat.lt_of_lt_of_le hr (Nat.le_trans (Nat.pow_le_pow_right (by decide) (show j+2<=4 by omega)) (by decide))
   subst hU
   unfold wm
   repeat' first|(apply IJ hn hlt)|(apply WO.sn;rfl;rfl;(first|omega|(simp only[List.length_set];omega)))|(apply WO.Bz;rfl;rfl;omega;omega)|(apply WO.BA;rfl;rfl;omega;omega)|(apply WO.By;rfl;rfl;omega)|(apply WO.wh;rfl;rfl;omega)|(apply WO.idx (s:=iM);rfl;rfl;omega)|apply W.seq|apply ab|apply W.region|apply WO.nil|apply W.draw|apply WD.nil|(apply WD.dE;rfl)|(apply WD.eh;rfl;(first|(simp only[nca];rfl)|rfl);(first|(simp only[nca];rfl)|rfl))|(apply W.ax;rfl)|(apply WO.geq;rfl;rfl)|(apply WO.sub;rfl;rfl;omega)|(apply WO.bY;rfl;rfl;omega)|(apply WO.pl;rfl;rfl)|(apply WO.pp;rfl;rfl)|(intro _;omega)|intro _
   all_goals try omega
   refine⟨j,by omega,by omega,by omega,by rw[s1];omega,?_,.cons (.cons hw)⟩
   refine fw.mg (U:=V) hL hn (by omega) hV ?_ ?_ ?_ ?_
   all_goals omega
 . unfold wm
   repeat' first|(apply IJ hn hlt)|apply W.seq|apply ab|apply W.region|apply WO.nil|apply W.skip|(apply W.aw;rfl)|(apply WO.geq;rfl;rfl)|(apply WO.pl;rfl;rfl)|(intro _;omega)|intro _
   all_goals try omega
   exact⟨i,by omega,hin,rfl,hU,hL,hw⟩
theorem Vm {off n u0:Nat}(hn:off+n<=24)(hlt:u0<10^n){L:al}{iv U:Int}{a1 a3 a4 a5 a6 a7 a8 a9 a11 a12 a13 a14:AV}{lo:List (Nat×AV)}{wr:List Nat}(h:BF L off n u0 8 iv U wr) :
 W M (.seq BD (.seq wm sr)) ⟨⟨[.sl 0 off n 1 cap,a1,.iV iv,a3,a4,a5,a6,a7,a8,a9,.int .u32 U,a11,a12,a13,a14],lo,[some (.cells (bp L) e)],[]⟩,wr⟩ (BE e off n u0):=by
 obtain⟨i,hi,hin,rfl,hU,hL,hw⟩:=h
 have hl:=hL.1
 have sl:=wj
 have hr:=wq hlt hin
 by_cases h1:4<=i
 . obtain⟨j,rfl⟩:∃j,i=j+4:=⟨i-4,by omega⟩
   have s1:=nI (u:=u0) (n:=n) (j:=j+2) (by omega)
   have s2:=nI (u:=u0) (n:=n) (j:=j) (by omega)
   obtain⟨V,hV⟩:∃V,V=u0/10^(n-(j+4)):=⟨_,rfl⟩
   rw[show j+2+2=j+4 by omega,←hV]at s1
   rw[s1]at s2
   rw[←hV]at hU hr
   have hV8:V<100000000:=Nat.lt_of_lt_of_le hr (Nat.le_trans (Nat.pow_le_pow_right (by decide) (show j+4<=8 by omega)) (by decide))
   subst hU
   unfold BD
   repeat' first|(apply IK hn hlt)|(apply WO.sn;rfl;rfl;(first|omega|(simp only[List.length_set];omega)))|(apply WO.Bz;rfl;rfl;omega;omega)|(apply WO.BA;rfl;rfl;omega;omega)|(apply WO.By;rfl;rfl;omega)|(apply WO.wh;rfl;rfl;omega)|(apply WO.idx (s:=iM);rfl;rfl;omega)|apply W.seq|apply ab|apply W.region|apply WO.nil|apply W.draw|apply WD.nil|(apply WD.dE;rfl)|(apply WD.eh;rfl;(first|(simp only[nca];rfl)|rfl);(first|(simp only[nca];rfl)|rfl))|(apply W.ax;rfl)|(apply WO.geq;rfl;rfl)|(apply WO.sub;rfl;rfl;omega)|(apply WO.bY;rfl;rfl;omega)|(apply WO.pl;rfl;rfl)|(apply WO.pp;rfl;rfl)|(intro _;omega)|intro _
   all_goals try omega
   refine⟨j,by omega,by omega,by omega,by rw[s2];omega,?_,.cons (.cons (.cons (.cons hw)))⟩
   refine fw.mg (U:=V/100) (fw.mg (i:=j+2) (U:=V) hL hn (by omega) hV ?_ ?_ ?_ ?_) hn (by omega) s1.symm ?_ ?_ ?_ ?_
   all_goals omega
 . unfold BD
   repeat' first|(apply IK hn hlt)|apply W.seq|apply ab|apply W.region|apply WO.nil|apply W.skip|(apply W.aw;rfl)|(apply WO.geq;rfl;rfl)|(apply WO.pl;rfl;rfl)|(intro _;omega)|intro _
   all_goals try omega
   exact⟨i,by omega,hin,rfl,hU,hL,hw⟩
theorem Vn (hft:M.FT=FT)(off n u0:Nat)(hn:off+n<=24)(hlt:u0<10^n)(hu:u0<18446744073709551616)(L:al)(hL:L.length=24) :
 ∃L' wr,gA 0 wr/\fw L' off n 0 u0/\aZ M 306 [.sl 0 off n 1 cap,.uV (u0:Nat)] [some (.cells (bp L) e)] ⟨.ao [],[some (.cells (bp L') e)],wr⟩:=by
 refine Vl (P:=fun L'=>fw L' off n 0 u0) (by rw[hft];exact UL) (by simp) ?_
 have lp:=fun Q a10 a11 a12 a13 a14 hQ a3 a4 a5 a6 a7 a8 a9 lo wr=>Vk (M:=M) (cap:=cap) (e:=e) off n u0 hn hu (Q:=Q) a10 a11 a12 a13 a14 hQ L n a3 a4 a5 a6 a7 a8 a9 lo wr (Nat.le_refl _) ⟨hL,fun j h1 h2=>by omega⟩
 simp only[Nat.sub_self,Nat.pow_zero,Nat.div_one]at lp
 unfold Ir
 simp only[enter]
 repeat' first|apply W.seq|apply ab|apply W.region|apply WO.nil|apply W.block|(apply WO.pl;rfl;rfl)|(apply WO.pp;rfl;rfl)
 refine lp _ _ _ _ _ _ (fun L i a3 a4 a5 a6 a7 a8 a9 lo wr hi h8 hL hw=>?_) _ _ _ _ _ _ _ _ _ gA.nil
 have hr:=wq hlt hi
 have hV:u0/10^(n-i)<4294967296:=Nat.lt_of_lt_of_le hr (Nat.le_trans (Nat.pow_le_pow_right (by decide) (show i<=8 by omega)) (by decide))
 obtain⟨V,hVe⟩:∃V,V=u0/10^(n-i):=⟨_,rfl⟩
 rw[←hVe]at hr hV ⊢
 repeat' first|(apply Vm hn hlt)|(apply WO.IE;rfl;omega)|apply W.seq|apply ab|apply W.region|apply WO.nil|apply cg|(apply WO.pl;rfl;rfl)|(apply WO.pp;rfl;rfl)
 exact⟨i,h8,hi,rfl,by rw[hVe],hL,hw⟩
end Go.Ab.Ch1

/-
  Own work: decimal texts of machine integers: Itoa, FormatUint.
-/
namespace Go.Ab.Ch1
open Go.Ab.bz
variable {M:aO} {cap:Option Nat}
section
variable {t:Nat} {x y:aN} {l:List aU} {pe:List AV} {lo:List (Nat×AV)} {df wr:List Nat} {k:IntKind} {a:Int} {Q:aq->Prop} {e:TypeId} {L:al} {n:Nat}
theorem WO.BG (hx:(St.mk pe lo [some (.cells (bp L) e)] df).aa x=some (.ptr 0 0))(hl:L.length=24)(hy:(St.mk pe lo [some (.cells (bp L) e)] df).aa y=some (.int k a))(ha:a=(n:Int))(hn:n<=24)
 (h:WO M l ⟨⟨pe,(t,.sl 0 0 n 1 (some 24))::lo,[some (.cells (bp L) e)],df⟩,wr⟩ Q):WO M (⟨.l t,.ic 24 1 x none (some y),none⟩::l) ⟨⟨pe,lo,[some (.cells (bp L) e)],df⟩,wr⟩ Q:=by
 subst ha
 refine WO.ID (i:=0) (j:=n) hx hl rfl ?_ (by decide) h
 simp only[St.cY,hy,Option.map_some,Option.bind_some,bL]
 rw[if_pos (by omega)];rfl
theorem WO.BH (hx:(St.mk pe lo [some (.cells (bp L) e)] df).aa x=some (.ptr 0 0))(hl:L.length=24)(hy:(St.mk pe lo [some (.cells (bp L) e)] df).aa y=some (.int k a))(ha:a=1+(n:Int))(hn:n<24)
 (h:WO M l ⟨⟨pe,(t,.sl 0 1 n 1 (some 23))::lo,[some (.cells (bp L) e)],df⟩,wr⟩ Q):WO M (⟨.l t,.ic 24 1 x (some (.c (.iV 1))) (some y),none⟩::l) ⟨⟨pe,lo,[some (.cells (bp L) e)],df⟩,wr⟩ Q:=by
 subst ha
 refine WO.ID (i:=1) (j:=n+1) hx hl ?_ ?_ (by decide) h
 . have e1:(St.mk pe lo [some (.cells (bp L) e)] df).aa (.c (.iV 1))=some (.iV 1):=rfl
   simp only[St.cY,e1,Option.map_some,Option.bind_some,bL]
   rw[if_pos (by omega)];rfl
 . simp only[St.cY,hy,Option.map_some,Option.bind_some,bL]
   rw[if_pos (by omega)]
   congr 1;omega
theorem WO.Vo {hp:ae}{v:Int}(hx:(St.mk pe lo hp df).aa x=some (.uV a))(hv:(0-a)%18446744073709551616=v)
 (h:WO M l ⟨⟨pe,(t,.uV v)::lo,hp,df⟩,wr⟩ Q):WO M (⟨.l t,.un .neg x,none⟩::l) ⟨⟨pe,lo,hp,df⟩,wr⟩ Q:=
 WO.pl (v:=.uV v) (by simp only[aV,hx,Option.bind_some,qz,nh,hv]) rfl h
end
def nJ:al:=List.replicate 24 0
def cK (z:Int):al:=if z<0 then 45::bh (-z).toNat else bh z.toNat
structure ss (M:aO):Prop where
 ft:M.FT=FT
 IL:∀ars h,M.ext 306 ars h=none
 BI:∀(n:Nat) h,n<100->M.ext 304 [.iV n] h=some ⟨.str (bh n),h,[]⟩
 wu:∀(d:Int) h,(0<d/\d<18446744073709551616)->M.ext 305 [.uV d] h=some ⟨.iV (fD d),h,[]⟩
theorem ss.BJ (C:ss M){e:TypeId}{off:Nat}(u:Nat)(hu:0<u/\u<18446744073709551616)(ho:off<=4) :
 ∃L' wr,gA 0 wr/\L'.length=24/\(L'.drop off).take (fD u)=bh u/\CT M (ir 306) [.sl 0 off (fD u) 1 cap,.uV u] [some (.cells (bp nJ) e)] ⟨.ao [],[some (.cells (bp L') e)],wr⟩:=by
 obtain⟨k1,k2,k3,k4⟩:=wi hu
 obtain⟨L',wr,hw,hD,hr⟩:=Vn (cap:=cap) (e:=e) C.ft off (fD u) u (by omega) k3 hu.2 nJ rfl
 obtain⟨m,hm⟩:∃m,fD u=m+1:=⟨fD u-1,by omega⟩
 refine⟨L',wr,hw,hD.1,?_,CT.run (fi:=[]) (ca:=[]) (C.IL _ _) hr⟩
 rw[hD.fin (by omega)]
 rw[hm]at k3 k4 ⊢
 exact(Bu k3 (by
  rcases k4 with k4|k4
  . exact .inl (by omega)
  . exact .inr (by simpa using k4))).symm
set_option maxRecDepth 100000 in
theorem Vp (C:ss M)(u:Nat)(hu:u<18446744073709551616):aZ M 299 [.uV u,.iV 10] [] ⟨.str (bh u),[],[]⟩:=by
 refine bT (by rw[C.ft];exact UN) (by simp) ?_
 unfold It
 simp only[enter]
 by_cases h:u<100
 . have q304:=fun hh=>C.BI u hh h
   repeat' first|apply W.seq|apply ab|apply W.region|apply WO.nil|apply W.ret|apply ba|(apply W.ax;rfl)|(apply WO.lss;rfl;rfl)|(apply WO.eql;rfl;rfl)|(apply WO.ku;rfl;omega)|(apply WO.ay;rfl;rfl;first|exact q304 _)|(apply WO.pl;rfl;rfl)|(apply WO.pp;rfl;rfl)|(intro _;omega)|intro _
   all_goals try omega
   all_goals exact⟨.inr rfl,rfl,_,rfl,rfl,rfl⟩
 . have q305:=fun hh=>C.wu u hh (by omega)
   obtain⟨k1,k2,k3,k4⟩:=wi (d:=u) (by omega)
   obtain⟨L',wr,hw,hl,hd,q306⟩:=C.BJ (cap:=some 24) (e:=301) (off:=0) u (by omega) (by decide)
   have hz:nJ.length=24:=rfl
   repeat' first|(apply WO.BG (L:=nJ) (n:=fD u);rfl;exact hz;rfl;rfl;omega)|(apply WO.BG (L:=L') (n:=fD u);rfl;exact hl;rfl;rfl;omega)|(apply WO.Bx (L:=L');rfl;omega)|apply W.seq|apply ab|apply W.region|apply WO.nil|apply W.ret|apply W.skip|apply ba|(apply W.ax;rfl)|(apply W.aw;rfl)|(apply WO.lss;rfl;rfl)|(apply WO.eql;rfl;rfl)|(apply WO.ay;rfl;rfl;first|exact q305 _)|(apply WO.ct;rfl;rfl;first|exact q306)|(apply WO.aX;rfl;rfl;rfl)|(apply WO.pl;rfl;rfl)|(apply WO.pp;rfl;rfl)|(intro _;omega)|intro _
   all_goals try omega
   rw[hd]
   exact⟨.inr rfl,rfl,_,rfl,rfl,rfl⟩
set_option maxRecDepth 100000 in
theorem Vq (C:ss M)(z:Int)(hz : -9223372036854775808<=z/\z<9223372036854775808):aZ M 267 [.iV z,.iV 10] [] ⟨.str (cK z),[],[]⟩:=by
 have hz24:nJ.length=24:=rfl
 refine bT (by rw[C.ft];exact UJ) (by simp) ?_
 unfold Ip
 simp only[enter]
 by_cases h:z<0
 . obtain⟨u,hu⟩:∃u:Nat,z = -(u:Int):=⟨(-z).toNat,by omega⟩
   have q305:=fun hh=>C.wu u hh (by omega)
   obtain⟨k1,k2,k3,k4⟩:=wi (d:=u) (by omega)
   obtain⟨L',wr,hw,hl,hd,q306⟩:=C.BJ (cap:=some 23) (e:=301) (off:=1) u (by omega) (by decide)
   have e0:cK z=45::bh u:=by unfold cK;rw[if_pos h];congr 2;omega
   have e1:((L'.set (0+0*1) 45).drop 0).take (1+fD u)=45::bh u:=by
    cases L' with
    | nil=>simp at hl
    | cons c L'=>
     rw[←hd,Nat.add_comm 1]
     rfl
   rw[e0]
   repeat' first|(apply WO.Pz;rfl)|(apply WO.Vo (v:=(u:Int));rfl;omega)|(apply WO.BH (L:=nJ) (n:=fD u);rfl;exact hz24;rfl;rfl;omega)|(apply WO.sn (L:=L') (c:=45);rfl;rfl;omega)|(apply WO.BG (L:=L'.set (0+0*1) 45) (n:=1+fD u);rfl;(rw[List.length_set];exact hl);rfl;omega;omega)|(apply WO.Bx (L:=L'.set (0+0*1) 45);rfl;(rw[List.length_set];omega))|apply W.seq|apply ab|apply W.region|apply WO.nil|apply W.ret|apply W.skip|apply ba|(apply W.ax;rfl)|(apply W.aw;rfl)|(apply WO.sT;rfl)|(apply WO.lss;rfl;rfl)|(apply WO.leq;rfl;rfl)|(apply WO.eql;rfl;rfl)|(apply WO.bx;rfl;rfl)|(apply WO.add;rfl;rfl;omega)|(apply WO.ay;rfl;rfl;first|exact q305 _)|(apply WO.ct;rfl;rfl;first|exact q306)|(apply WO.aX;rfl;rfl;rfl)|(apply WO.pl;rfl;rfl)|(apply WO.pp;rfl;rfl)|(intro _;omega)|intro _
   all_goals try omega
   rw[e1]
   exact⟨.inr rfl,rfl,_,rfl,rfl,rfl⟩
 . obtain⟨u,hu⟩:∃u:Nat,z=(u:Int):=⟨z.toNat,by omega⟩
   have e0:cK z=bh u:=by unfold cK;rw[if_neg h];congr 1;omega
   rw[e0]
   subst hu
   by_cases h1:u<100
   . have q304:=fun hh=>C.BI u hh h1
     repeat' first|apply W.seq|apply ab|apply W.region|apply WO.nil|apply W.ret|apply ba|(apply W.ax;rfl)|(apply WO.gT;rfl)|(apply WO.lss;rfl;rfl)|(apply WO.leq;rfl;rfl)|(apply WO.eql;rfl;rfl)|(apply WO.bn;rfl;rfl)|(apply WO.ay;rfl;rfl;first|exact q304 _)|(apply WO.pl;rfl;rfl)|(apply WO.pp;rfl;rfl)|(intro _;omega)|intro _
     all_goals try omega
     all_goals exact⟨.inr rfl,rfl,_,rfl,rfl,rfl⟩
   . have q305:=fun hh=>C.wu u hh (by omega)
     obtain⟨k1,k2,k3,k4⟩:=wi (d:=u) (by omega)
     obtain⟨L',wr,hw,hl,hd,q306⟩:=C.BJ (cap:=some 23) (e:=301) (off:=1) u (by omega) (by decide)
     repeat' first|(apply WO.BH (L:=nJ) (n:=fD u);rfl;exact hz24;rfl;rfl;omega)|(apply WO.BH (L:=L') (n:=fD u);rfl;exact hl;rfl;rfl;omega)|(apply WO.Bx (L:=L');rfl;omega)|apply W.seq|apply ab|apply W.region|apply WO.nil|apply W.ret|apply W.skip|apply ba|(apply W.ax;rfl)|(apply W.aw;rfl)|(apply WO.gT;rfl)|(apply WO.lss;rfl;rfl)|(apply WO.leq;rfl;rfl)|(apply WO.eql;rfl;rfl)|(apply WO.pb;rfl;omega)|(apply WO.bn;rfl;rfl)|(apply WO.add;rfl;rfl;omega)|(apply WO.ay;rfl;rfl;first|exact q305 _)|(apply WO.ct;rfl;rfl;first|exact q306)|(apply WO.aX;rfl;rfl;rfl)|(apply WO.pl;rfl;rfl)|(apply WO.pp;rfl;rfl)|(intro _;omega)|intro _
     all_goals try omega
     rw[hd]
     exact⟨.inr rfl,rfl,_,rfl,rfl,rfl⟩
theorem Vr (hft:M.FT=FT)(z:Int)(q:∀h,M.ext 267 [.iV z,.iV 10] h=some ⟨.str (cK z),h,[]⟩):aZ M 226 [.iV z] [] ⟨.str (cK z),[],[]⟩:=by
 refine bT (by rw[hft];exact UH) (by simp) ?_
 unfold Im
 simp only[enter]
 repeat' first|apply W.seq|apply ab|apply W.region|apply WO.nil|apply W.ret|(apply WO.ay;rfl;rfl;first|exact q _)|(apply WO.pl;rfl;rfl)|(apply WO.pp;rfl;rfl)
 all_goals exact⟨.inr rfl,rfl,_,rfl,rfl,rfl⟩
theorem Vs (hft:M.FT=FT)(z:Int)(q:∀h,M.ext 226 [.iV z] h=some ⟨.str (cK z),h,[]⟩):aZ M 183 [.iV z] [] ⟨.str (cK z),[],[]⟩:=by
 refine bT (by rw[hft];exact UG) (by simp) ?_
 unfold Il
 simp only[enter]
 repeat' first|apply W.seq|apply ab|apply W.region|apply WO.nil|apply W.ret|(apply WO.ay;rfl;rfl;first|exact q _)|(apply WO.pl;rfl;rfl)|(apply WO.pp;rfl;rfl)
 all_goals exact⟨.inr rfl,rfl,_,rfl,rfl,rfl⟩
theorem Vt (hft:M.FT=FT)(u:Nat)(q:∀h,M.ext 299 [.uV u,.iV 10] h=some ⟨.str (bh u),h,[]⟩):aZ M 263 [.uV u,.iV 10] [] ⟨.str (bh u),[],[]⟩:=by
 refine bT (by rw[hft];exact UM) (by simp) ?_
 unfold Is
 simp only[enter]
 repeat' first|apply W.seq|apply ab|apply W.region|apply WO.nil|apply W.ret|(apply WO.ay;rfl;rfl;first|exact q _)|(apply WO.pl;rfl;rfl)|(apply WO.pp;rfl;rfl)
 all_goals exact⟨.inr rfl,rfl,_,rfl,rfl,rfl⟩
end Go.Ab.Ch1

/-
  Own work: the code of functions: repeated texts, builders.
-/
namespace Go.Ab.Ch1
set_option maxRecDepth 1000000
def Vu:ak:=.seq (.seq (.region [⟨.l 111,.call (kF 302) [(.p 7)],none⟩,zm 112 5,zb 113 .lss 111 112]) (.cond (.l 113) (.skip) (.exit 3))) (.block 4 (.seq (.region [zm 114 5,⟨.l 115,.call (kF 302) [(.p 7)],none⟩,zb 116 .sub 114 115,⟨.l 117,.call (kF 302) [(.p 7)],none⟩,zm 118 6,⟨.l 119,.mm false [(.l 116),(.l 117),(.l 118)],none⟩,zw 8 119]) (.region [⟨.l 120,.call (kF 266) [(.p 7)],none⟩,zm 121 8,⟨.l 122,.slice .str 1 (.l 120) none (some (.l 121)) none,none⟩,⟨.l 123,.call (kF 265) [(.p 7),(.l 122)],none⟩])))
def IM:ak:=.seq (.region [⟨.p 2,.mv (.c (.str [])),none⟩]) (.seq (.seq (.region [⟨.p 9,.mv (.p 1),none⟩]) (.block 0 (.seq (.region [zq 13 .eql 9 0,zn 12 13]) (.cond (.l 12) (.seq (.region [⟨.p 2,.mv (.c (.str [])),none⟩]) (.ret)) (.seq (.region [zq 15 .eql 9 1,zn 14 15]) (.cond (.l 14) (.seq (.region [zm 16 0,zw 2 16]) (.ret)) (.skip))))))) (.seq (.seq (.region [zm 17 1,zc 18 .lss 17 0]) (.cond (.l 18) (.bad) (.skip))) (.seq (.region [zm 21 0,zL 22 21,⟨.l 23,.du .u64 (.l 22),none⟩,zm 24 1,⟨.l 25,.du .u64 (.l 24),none⟩,z2 26 300 23 25,zn 20 26,ze 27 0 20,ze 28 1 20,zw 3 27,zw 4 28]) (.seq (.seq (.region [zm 29 3,⟨.l 30,.bin .gtr (.l 29) (kU 0),none⟩,zn 31 30,zg (zm 32 4) 31 false,⟨.l 33,.bin .gtr (.l 32) (kU 9223372036854775807),some ((.l 31),false)⟩,zP 34 31 33]) (.cond (.l 34) (.bad) (.skip))) (.seq (.region [zm 36 4,⟨.l 37,.du .i64 (.l 36),none⟩,zw 5 37]) (.seq (.seq (.region [zm 38 0,zL 39 38,zc 40 .eql 39 0]) (.cond (.l 40) (.seq (.region [⟨.p 2,.mv (.c (.str [])),none⟩]) (.ret)) (.skip))) (.seq (.seq (.region [zm 41 0,⟨.p 10,.index (.l 41) (kI 0),none⟩]) (.block 1 (.seq (.seq (.region [⟨.l 44,.bin .eql (.p 10) (.c (.int .u8 (32))),none⟩,zw 11 44]) (.cond (.p 11) (.skip) (.seq (.region [⟨.l 45,.bin .eql (.p 10) (.c (.int .u8 (45))),none⟩,zw 11 45]) (.cond (.p 11) (.skip) (.seq (.region [⟨.l 46,.bin .eql (.p 10) (.c (.int .u8 (48))),none⟩,zw 11 46]) (.cond (.p 11) (.skip) (.seq (.region [⟨.l 47,.bin .eql (.p 10) (.c (.int .u8 (61))),none⟩,zw 11 47]) (.cond (.p 11) (.skip) (.region [⟨.l 48,.bin .eql (.p 10) (.c (.int .u8 (9))),none⟩,zw 11 48]))))))))) (.cond (.p 11) (.block 2 (.seq (.region [zm 50 5,zc 51 .leq 50 128,zn 52 51,zg (zm 53 0) 52 true,⟨.l 54,.call (kF 212) [(.c (.str zD7)),(.l 53)],some ((.l 52),true)⟩,zp 55 52 54,zn 49 55]) (.cond (.l 49) (.seq (.region [zm 56 5,⟨.l 57,.slice .str 1 (.c (.str zD7)) none (some (.l 56)) none,none⟩,zw 2 57]) (.ret)) (.seq (.region [zm 59 5,zc 60 .leq 59 128,zn 61 60,zg (zm 62 0) 61 true,⟨.l 63,.call (kF 212) [(.c (.str zD6)),(.l 62)],some ((.l 61),true)⟩,zp 64 61 63,zn 58 64]) (.cond (.l 58) (.seq (.region [zm 65 5,⟨.l 66,.slice .str 1 (.c (.str zD6)) none (some (.l 65)) none,none⟩,zw 2 66]) (.ret)) (.seq (.region [zm 68 5,zc 69 .leq 68 64,zn 70 69,zg (zm 71 0) 70 true,⟨.l 72,.call (kF 212) [(.c (.str zD5)),(.l 71)],some ((.l 70),true)⟩,zp 73 70 72,zn 67 73]) (.cond (.l 67) (.seq (.region [zm 74 5,⟨.l 75,.slice .str 1 (.c (.str zD5)) none (some (.l 74)) none,none⟩,zw 2 75]) (.ret)) (.seq (.region [zm 77 5,zc 78 .leq 77 128,zn 79 78,zg (zm 80 0) 79 true,⟨.l 81,.call (kF 212) [(.c (.str zD4)),(.l 80)],some ((.l 79),true)⟩,zp 82 79 81,zn 76 82]) (.cond (.l 76) (.seq (.region [zm 83 5,⟨.l 84,.slice .str 1 (.c (.str zD4)) none (some (.l 83)) none,none⟩,zw 2 84]) (.ret)) (.seq (.region [zm 86 5,zc 87 .leq 86 64,zn 88 87,zg (zm 89 0) 88 true,⟨.l 90,.call (kF 212) [(.c (.str zD3)),(.l 89)],some ((.l 88),true)⟩,zp 91 88 90,zn 85 91]) (.cond (.l 85) (.seq (.region [zm 92 5,⟨.l 93,.slice .str 1 (.c (.str zD3)) none (some (.l 92)) none,none⟩,zw 2 93]) (.ret)) (.skip)))))))))))) (.skip))))) (.seq (.region [zm 94 5,zw 6 94]) (.seq (.seq (.region [zm 95 5,zc 96 .gtr 95 8192]) (.cond (.l 96) (.seq (.region [zm 97 0,zL 98 97,⟨.l 99,.bin .quo (kI 8192) (.l 98),none⟩,zm 100 0,zL 101 100,zb 102 .mul 99 101,zw 6 102]) (.seq (.region [zm 103 6,zc 104 .eql 103 0]) (.cond (.l 104) (.region [zm 105 0,zL 106 105,zw 6 106]) (.skip)))) (.skip))) (.seq (.region [⟨.p 7,.alloc 269 [.dh,.ah],none⟩]) (.seq (.region [zm 107 5,⟨.l 108,.call (kF 301) [(.p 7),(.l 107)],none⟩]) (.seq (.region [zm 109 0,⟨.l 110,.call (kF 265) [(.p 7),(.l 109)],none⟩]) (.seq (.block 3 (.loop Vu)) (.seq (.region [⟨.l 124,.call (kF 266) [(.p 7)],none⟩,zw 2 124]) (.ret)))))))))))))))
theorem Vv:FT 264=some ⟨125,[0,1,4,5,6,7,8,9,10,11,42,43],[.var (.p 2)],IM⟩:=by kernel_rfl
def BK:ak:=.seq (.region [zi 2 0,⟨.p 3,.mv (.c (.cU)),none⟩]) (.seq (.region [zm 6 0,z1 7 303 6]) (.seq (.region [zm 8 0,zm 9 0,⟨.l 10,.jg (.l 9),none⟩,⟨.l 11,.iz 1 (.l 10),none⟩,zd 12 1 11,zm 13 1,⟨.l 14,.append 5 1 1 (.l 12) (.l 13),none⟩,⟨.l 15,.jg (.l 8),none⟩,⟨.l 16,.iz 1 (.l 15),none⟩,zS 1 16 14]) (.seq (.region [zm 17 1,zL 18 17,zw 2 18,⟨.p 3,.mv (.c (.cU)),none⟩]) (.ret))))
theorem IN:FT 265=some ⟨19,[0,1,4,5],[.var (.p 2),.var (.p 3)],BK⟩:=by kernel_rfl
def IP:ak:=.seq (.region [⟨.p 1,.mv (.c (.str [])),none⟩]) (.seq (.draw [(zm 3 0,[]),(⟨.l 4,.jg (.l 3),none⟩,[]),(⟨.l 5,.iz 1 (.l 4),none⟩,[]),(zd 6 1 5,[]),(⟨.l 7,.qq (.l 6),none⟩,[]),(zm 8 0,[0,1,2,3,4]),(⟨.l 9,.jg (.l 8),none⟩,[0,1,2,3,4]),(⟨.l 10,.iz 1 (.l 9),none⟩,[0,1,2,3,4]),(zd 11 1 10,[0,1,2,3,4]),(zl 12 11,[0,1,2,3,4]),(⟨.l 13,.jf 5 (.l 7) (.l 12),none⟩,[]),(zw 1 13,[])]) (.ret))
theorem Vw:FT 266=some ⟨14,[0,2],[.var (.p 1)],IP⟩:=by kernel_rfl
def BL:ak:=.seq (.region [zm 2 0,⟨.l 3,.jg (.l 2),none⟩,⟨.l 4,.iz 0 (.l 3),none⟩,zd 5 1 4,⟨.l 6,.eq false (.ref .ptr) (.l 5) (.c (.dh)),none⟩]) (.cond (.l 6) (.region [zm 7 0,zm 8 0,⟨.l 9,.jC none (.l 8),none⟩,z1 10 323 9,⟨.l 11,.jC (some (269,2)) (.l 10),none⟩,⟨.l 12,.jg (.l 7),none⟩,⟨.l 13,.iz 0 (.l 12),none⟩,zS 1 13 11]) (.seq (.region [zm 14 0,⟨.l 15,.jg (.l 14),none⟩,⟨.l 16,.iz 0 (.l 15),none⟩,zd 17 1 16,zm 18 0,⟨.l 19,.mB true (.l 17) (.l 18),none⟩]) (.cond (.l 19) (.bad) (.skip))))
theorem IQ:FT 303=some ⟨20,[0],[],BL⟩:=by kernel_rfl
def IS:ak:=.seq (.region [⟨.p 2,.mv (kU 0),none⟩,⟨.p 3,.mv (kU 0),none⟩]) (.seq (.cond (.c (.bool false)) (.seq (.region [zm 11 0,⟨.l 12,.du .u32 (.l 11),none⟩,zm 13 1,⟨.l 14,.du .u32 (.l 13),none⟩,z2 15 321 12 14,zn 10 15,ze 16 0 10,ze 17 1 10,zw 4 16,zw 5 17]) (.seq (.region [zm 18 4,⟨.l 19,.du .u64 (.l 18),none⟩,zm 20 5,⟨.l 21,.du .u64 (.l 20),none⟩,zw 2 19,zw 3 21]) (.ret))) (.skip)) (.seq (.region [zm 23 0,zm 24 1,z2 25 244 23 24,zn 22 25,ze 26 0 22,ze 27 1 22,zw 6 26,zw 7 27]) (.seq (.region [zm 28 6,zm 29 7,zw 2 28,zw 3 29]) (.ret))))
theorem Vx:FT 300=some ⟨30,[0,1,4,5,6,7,8,9],[.var (.p 2),.var (.p 3)],IS⟩:=by kernel_rfl
end Go.Ab.Ch1

/-
  Own work: a builder of text.
-/
namespace Go.Ab.Ch1
variable {M:aO} {cap:Option Nat}
def nK (N:Nat)(hp:ae)(b:Nat)(acc:al):Prop:=(acc=[]/\hp.at b=some (.cells [.dh,.ah] 269))\/(acc≠[]/\∃c,N<=c/\hp.at b=some (.cells [.ptr b 0,.sl c 0 acc.length 1 none] 269)/\hp.at c=some (.cells (bp acc) 5))
theorem BM {h:ae}{b:Nat}{x:Option bA}{n:Nat}(hn:h.length=n):(h.put b x).take n=h.put b x:=List.take_of_length_le (by rw[fq];omega)
theorem Vy {v:AV}{n b:Nat}{s:aq}{h:ae}{c:List AV}{e:TypeId}(hv:v.top=0)(hb:b<h.length)(hn:h.length=n)(hh:s.s.hp=h.put b (some (.cells c e)))(hw:∀x∈s.wr,x=b)(hc:br c<=n):dS v n s=⟨v,h.put b (some (.cells c e)),s.wr.filter (· < n)⟩:=by
 have ht:tight s.s.hp n s.wr=true:=by
  simp only[tight,List.all_eq_true]
  intro x hx
  rw[hw x hx,hh,cI hb]
  simp[bA.top,hc]
 rw[zo (by omega) ht,hh,BM hn]
theorem Vz (hft:M.FT=FT)(nL:∀b h,M.ext 323 [.ptr b 0] h=some ⟨.ptr b 0,h,[]⟩)(b:Nat)(hp:ae)(hb:hp.at b=some (.cells [.dh,.ah] 269)):aZ M 303 [.ptr b 0] hp ⟨.ao [],hp.put b (some (.cells [.ptr b 0,.ah] 269)),[b]⟩:=by
 have hlt:=fa hb
 have q:=nL b hp
 refine uk (by rw[hft];exact IQ) (by simp) ?_
 unfold BL
 simp only[enter]
 repeat' first|(apply WO.mX;rfl;exact hb;rfl)|(apply WO.Pb;rfl;exact hb;decide)|(apply WO.Pc;rfl;exact hb;decide)|(apply WO.cJ (c':=[.ptr b 0,.ah]);rfl;rfl;exact hb;exact⟨rfl,by decide,rfl⟩;rfl)|apply W.seq|apply ab|apply W.region|apply WO.nil|(apply W.ax;rfl)|(apply WO.ay;rfl;rfl;first|exact q)|(apply WO.pl;rfl;rfl)
 refine⟨.inl rfl,rfl,[],rfl,?_⟩
 refine(Vy (v:=.ao []) rfl hlt rfl rfl (by simp) ?_).trans ?_
 . show max (b+1) (max 0 0)<=_
   omega
 . simp[hlt]
theorem VA (hft:M.FT=FT)(b:Nat)(hp:ae)(v:AV)(hb:hp.at b=some (.cells [.ptr b 0,v] 269)):aZ M 303 [.ptr b 0] hp ⟨.ao [],hp,[]⟩:=by
 refine mW (by rw[hft];exact IQ) (by simp) ?_
 unfold BL
 simp only[enter]
 repeat' first|(apply WO.mX;rfl;exact hb;rfl)|(apply WO.Pd;rfl;rfl;exact hb)|apply W.seq|apply ab|apply W.region|apply WO.nil|apply W.skip|(apply W.aw;rfl)|(apply WO.pl;rfl;rfl)
 exact⟨.inl rfl,rfl,rfl,rfl,[],rfl,rfl⟩
structure Kept (N b:Nat)(hp H:ae)(wr:List Nat):Prop where
 len:hp.length<=H.length
 at':∀a,a<N->a≠b->H[a]? = hp[a]?
 wr:∀x∈wr,x=b\/N<=x
theorem IT {h h':ae}{a:Nat}(e:h'[a]? = h[a]?):h'.at a=h.at a:=by simp only[ae.at,e]
theorem su {h:ae}{a b:Nat}{x:Option bA}(hn:a≠b):(h.put b x)[a]? = h[a]? := by
 simp only[ae.put,List.getElem?_set,if_neg (fun e:b=a=>hn e.symm)]
theorem IU {h l:ae}{a:Nat}(hn:a<h.length):(h++l)[a]? = h[a]? := List.getElem?_append_left hn
theorem IV (hft:M.FT=FT)(pT:∀ars h,M.ext 303 ars h=none)(nL:∀b h,M.ext 323 [.ptr b 0] h=some ⟨.ptr b 0,h,[]⟩)(N b:Nat)(hp:ae)(acc s:al)(hN:b<N/\N<=hp.length)(hs:s≠[])(hl:acc.length+s.length<1000000000)(hB:nK N hp b acc) :
 gY M 265 [.ptr b 0,.str s] hp fun r=>r.v = .ao [.iV s.length,.cU]/\nK N r.h b (acc++s)/\Kept N b hp r.h r.wr/\b∈r.wr/\r.h.at b=some (.cells [.ptr b 0,.sl hp.length 0 (acc++s).length 1 none] 269):=by
 have h0:0<s.length:=List.length_pos_iff.2 hs
 have hne:acc++s≠[]:=by simp[hs]
 rcases hB with ⟨rfl,hb⟩|⟨ha,c,hc,hb,hcb⟩
 . have hlt:=fa hb
   have q:=CT.run (fi:=[]) (ca:=[]) (ars:=[.ptr b 0]) (pT _ _) (Vz hft nL b hp hb)
   have hb1:(hp.put b (some (.cells [.ptr b 0,.ah] 269))).at b=some (.cells [.ptr b 0,.ah] 269):=cI hlt
   have hb2:=cG (l:=[some (.cells (bp s) 5)]) hb1
   have hsc:eL (hp.put b (some (.cells [.ptr b 0,.ah] 269))) (.str s)=some (bp s,s.length):=rfl
   refine gY.rp (by rw[hft];exact IN) (by simp) ?_
   unfold BK
   simp only[enter]
   repeat' first|(apply WO.mX;rfl;exact hb1;rfl)|(apply WO.OJ;rfl;rfl;exact hsc;exact⟨(kL s).trans (Nat.mul_one _).symm,by decide,IB s⟩;exact⟨h0,by simp only[dX];omega⟩)|(apply WO.cJ (c':=[.ptr b 0,.sl (hp.put b (some (.cells [.ptr b 0,.ah] 269))).length 0 s.length 1 none]);rfl;rfl;exact hb2;exact⟨rfl,Nat.le_refl _,rfl⟩;rfl)|apply W.seq|apply ab|apply W.region|apply WO.nil|apply W.ret|(apply WO.ct;rfl;rfl;first|exact q)|(apply WO.pl;rfl;rfl)|(apply WO.pp;rfl;rfl)
   refine⟨.inr rfl,_,rfl,[.iV s.length,.cU],rfl,?_⟩
   rw[FL (n:=hp.length) rfl rfl ?_]
   . have hL:(hp.put b (some (bA.cells [.ptr b 0,.ah] 269))++[some (bA.cells (bp s) 5)]).length=hp.length+1:=by simp[fq]
     refine⟨rfl,.inr ⟨hne,hp.length,hN.2,?_,?_⟩,⟨?_,fun a h1 h2=>?_,?_⟩,by simp[hlt],?_⟩
     . simp only[cI (show b<_ by rw[hL];omega),fq,List.nil_append]
     . rw[List.nil_append]
       refine rn (by omega) ?_
       have:=cn (h:=hp.put b (some (bA.cells [.ptr b 0,.ah] 269))) (x:=some (bA.cells (bp s) 5))
       rw[fq]at this
       exact this
     . rw[fq,hL];omega
     . rw[su h2,IU (by rw[fq];omega),su h2]
     . simp
     . simp only[cI (show b<_ by rw[hL];omega),fq,List.nil_append]
   . simp only[tight,List.all_eq_false]
     refine⟨b,by simp,?_⟩
     rw[cI (by simp[fq];omega)]
     simp[bA.top,br,AV.top,fq]
     omega
 . have hlt:=fa hb
   have q:=CT.run (fi:=[]) (ca:=[]) (ars:=[.ptr b 0]) (pT _ _) (VA hft b hp _ hb)
   have hsc:eL hp (.str s)=some (bp s,s.length):=rfl
   have hcl:=fa hcb
   have hbc:b≠c:=by omega
   have hb2:ae.at (hp.put c none++[some (.cells (bp acc++bp s) 5)]) b=some (.cells [.ptr b 0,.sl c 0 acc.length 1 none] 269):=cG (rn hbc hb)
   refine gY.rp (by rw[hft];exact IN) (by simp) ?_
   unfold BK
   simp only[enter]
   repeat' first|(apply WO.mX;rfl;exact hb;rfl)|(apply WO.OK;rfl;rfl;exact hsc;exact⟨(kL s).trans (Nat.mul_one _).symm,by decide,IB s⟩;exact⟨h0,by simp only[dX];omega⟩;exact hcb;exact((kL acc).trans (Nat.mul_one _).symm).trans (Nat.zero_add _).symm)|(apply WO.cJ (c':=[.ptr b 0,.sl hp.length 0 (acc.length+s.length) 1 none]);rfl;rfl;exact hb2;exact⟨rfl,Nat.le_refl _,rfl⟩;rfl)|apply W.seq|apply ab|apply W.region|apply WO.nil|apply W.ret|(apply WO.ct;rfl;rfl;first|exact q)|(apply WO.pl;rfl;rfl)|(apply WO.pp;rfl;rfl)
   refine⟨.inr rfl,_,rfl,[.iV s.length,.cU],rfl,?_⟩
   rw[FL (n:=hp.length) rfl rfl ?_]
   . have hL:(hp.put c none++[some (bA.cells (List.drop 0 (bp acc)++bp s) 5)]).length=hp.length+1:=by simp[fq]
     refine⟨rfl,.inr ⟨hne,hp.length,hN.2,?_,?_⟩,⟨?_,fun a h1 h2=>?_,?_⟩,by simp[hlt],?_⟩
     . simp only[cI (show b<_ by rw[hL];omega),List.length_append]
     . refine rn (by omega) ?_
       have:=cn (h:=hp.put c none) (x:=some (bA.cells (List.drop 0 (bp acc)++bp s) 5))
       rw[fq]at this
       rw[this,List.drop_zero,UU]
     . rw[fq,hL];omega
     . rw[su h2,IU (by rw[fq];omega),su (by omega)]
     . intro x hx
       simp at hx
       omega
     . simp only[cI (show b<_ by rw[hL];omega),List.length_append]
   . simp only[tight,List.all_eq_false]
     refine⟨b,by simp,?_⟩
     rw[cI (by simp[fq];omega)]
     simp[bA.top,br,AV.top]
     omega
theorem IW (hft:M.FT=FT)(N b:Nat)(hp:ae)(acc:al)(hB:nK N hp b acc)(hne:acc≠[])(hl:acc.length<1000000000)(hN:b<N/\N<=hp.length):gY M 266 [.ptr b 0] hp fun r=>r.v = .str acc/\Kept N b hp r.h r.wr:=by
 have h0:0<acc.length:=List.length_pos_iff.2 hne
 rcases hB with ⟨rfl,hb⟩|⟨ha,c,hc,hb,hcb⟩
 . exact absurd rfl hne
 have hcl:=fa hcb
 refine gY.rp (by rw[hft];exact Vw) (by simp) ?_
 unfold IP
 simp only[enter]
 have hcut:cut (bp acc) 0 ((acc.length:Int)).toNat=some (bp acc):=by
  rw[Int.toNat_natCast];simp[cut,kL];exact List.take_of_length_le (by rw[kL];exact Nat.le_refl _)
 repeat' first|(apply WO.mX;rfl;exact hb;rfl)|(apply WO.Pe;rfl;exact h0)|(apply WD.jf;rfl;rfl;exact hcb;omega;exact hcut;exact Bw acc;intro _)|apply W.seq|apply ab|apply W.region|apply WO.nil|apply W.ret|apply W.draw|apply WD.nil|(apply WD.dE;rfl)|(apply WD.dc;rfl;rfl;(first|(simp only[nca];rfl)|rfl))|(apply WO.pl;rfl;rfl)|(apply WO.pp;rfl;rfl)
 refine⟨.inr rfl,_,rfl,[.str acc],rfl,?_⟩
 rw[Pf (n:=hp.length) rfl rfl (Nat.zero_le _) ?_]
 . refine⟨rfl,?_,fun a h1 h2=>?_,?_⟩
   . simp only[BM rfl,fq];exact Nat.le_refl _
   . simp only[BM rfl]
     exact su (by omega)
   . intro x hx
     simp at hx
     omega
 . have:ae.at (hp.put c none) c=none:=cI hcl
   simp[tight,this]
end Go.Ab.Ch1

/-
  Own work: decimal texts in parts of 18 digits.
-/
namespace Go.Ab.bz
theorem wv:∀k,dG k 0=List.replicate k 48
 | 0=>rfl
 | k+1=>by rw[dG,wv k,List.replicate_succ'];rfl
theorem IX:∀{k n:Nat},n<10^(k+1)->dG (k+1) n=List.replicate (k+1-(bh n).length) 48++bh n
 | 0,n,h=>by
  have h:n<10:=by simpa using h
  rw[gN h];simp[dG,Nat.mod_eq_of_lt h]
 | k+1,n,h=>by
  rw[dG]
  by_cases h1:n<10
  . rw[gN h1,Nat.div_eq_of_lt h1,wv,Nat.mod_eq_of_lt h1];rfl
  . rw[Nat.pow_succ]at h
    have hl:(bh n).length=(bh (n/10)).length+1:=by rw[jA h1];simp
    rw[IX (k:=k) (n:=n/10) (by omega),jA h1,List.append_assoc]
    rw[show k+1+1-(bh (n/10)++[fe (n%10)]).length=k+1-(bh (n/10)).length by rw[←jA h1,hl];omega]
def iu (n:Nat):List al:=if n=0 then [] else if n<1000000000000000000 then [bh n] else dG 18 (n%1000000000000000000)::iu (n/1000000000000000000)
termination_by n
decreasing_by omega
theorem pU:iu 0=[]:=by rw[iu,if_pos rfl]
theorem sv {n:Nat}(h0:n≠0)(h:n<1000000000000000000):iu n=[bh n]:=by rw[iu,if_neg h0,if_pos h]
theorem sw {n:Nat}(h:¬n<1000000000000000000):iu n=dG 18 (n%1000000000000000000)::iu (n/1000000000000000000):=by
 rw[iu,if_neg (by omega),if_neg h]
theorem VB {n:Nat}(h:n≠0):(iu n).reverse.flatten=bh n:=by
 induction n using Nat.strongRecOn with
 | _ n ih=>
  by_cases h1:n<1000000000000000000
  . rw[sv h h1];simp
  . rw[sw h1,List.reverse_cons,List.flatten_append,ih _ (by omega) (by omega)]
    have e:=Iy (k:=18) (a:=n/1000000000000000000) (b:=n%1000000000000000000) (by omega) (by rw[show (10:Nat)^18=1000000000000000000 by rfl];omega)
    rw[show (10:Nat)^18=1000000000000000000 by rfl,show n/1000000000000000000*1000000000000000000+n%1000000000000000000=n by omega]at e
    rw[e];simp
theorem VC {n:Nat}:∀x∈iu n,x≠[]:=by
 induction n using Nat.strongRecOn with
 | _ n ih=>
  by_cases h0:n=0
  . subst h0;rw[pU];simp
  . by_cases h1:n<1000000000000000000
    . rw[sv h0 h1];intro x hx;rw[List.mem_singleton.1 hx];exact kK _
    . rw[sw h1]
      intro x hx
      rcases List.mem_cons.1 hx with h3|hx
      . rw[h3];exact fun e=>absurd (congrArg List.length e) (by rw[nE,List.length_nil];exact Nat.succ_ne_zero 17)
      . exact ih (n/1000000000000000000) (Nat.div_lt_self (Nat.pos_of_ne_zero h0) (by decide)) x hx
theorem VD {n:Nat}:∀x∈iu n,x.length<=18:=by
 induction n using Nat.strongRecOn with
 | _ n ih=>
  by_cases h0:n=0
  . subst h0;rw[pU];simp
  . by_cases h1:n<1000000000000000000
    . rw[sv h0 h1];intro x hx;rw[List.mem_singleton.1 hx];exact we (k:=18) h1 (by decide)
    . rw[sw h1]
      intro x hx
      rcases List.mem_cons.1 hx with h3|hx
      . rw[h3,nE];exact Nat.le_refl _
      . exact ih (n/1000000000000000000) (Nat.div_lt_self (Nat.pos_of_ne_zero h0) (by decide)) x hx
theorem IY:∀{k n:Nat},n<1000000000000000000^k->(iu n).length<=k
 | 0,n,h=>by
  obtain rfl:n=0:=by simpa using h
  rw[pU];exact Nat.le_refl _
 | k+1,n,h=>by
  by_cases h0:n=0
  . subst h0;rw[pU];exact Nat.zero_le _
  . by_cases h1:n<1000000000000000000
    . rw[sv h0 h1];exact Nat.succ_le_succ (Nat.zero_le _)
    . rw[sw h1,List.length_cons]
      rw[Nat.pow_succ]at h
      have:=IY (k:=k) (n:=n/1000000000000000000) (Nat.div_lt_of_lt_mul (by rw[Nat.mul_comm];exact h))
      omega
end Go.Ab.bz

/-
  Own work: the code of texts of integers and fractions.
-/
namespace Go.Ab.Ch1
set_option maxRecDepth 1000000
def mh:ak:=.seq (.seq (.region [zm 24 4,zl 25 24,zc 26 .gtr 25 0]) (.cond (.l 26) (.skip) (.exit 0))) (.block 1 (.seq (.region [zm 28 4,zm 29 5,z2 30 253 28 29,zn 27 30,ze 31 0 27,ze 32 1 27,zw 7 31,zw 8 32]) (.seq (.region [⟨.p 9,.mv (.c (.str [48])),none⟩]) (.seq (.seq (.region [zm 33 8,zl 34 33,zc 35 .gtr 34 0]) (.cond (.l 35) (.region [zm 36 8,⟨.l 37,.dw none 1 (.l 36) (kI 0),none⟩,zd 38 1 37,⟨.l 39,.call (kF 263) [(.l 38),(kI 10)],none⟩,zw 9 39]) (.skip))) (.seq (.seq (.region [zm 40 7,zl 41 40,zc 42 .gtr 41 0]) (.cond (.l 42) (.region [zm 43 9,zL 44 43,⟨.l 45,.bin .sub (kI 18) (.l 44),none⟩,⟨.l 46,.call (kF 264) [(.c (.str [48])),(.l 45)],none⟩,zm 47 9,zb 48 .add 46 47,zw 9 48]) (.skip))) (.seq (.region [zm 49 6,zm 50 9,⟨.l 51,.eu 9 1 1 [.str []] [(0,1,(.l 50))],none⟩,⟨.l 52,.append 9 1 16 (.l 49) (.l 51),none⟩,zw 6 52]) (.region [zm 53 7,zw 4 53])))))))
def wx:ak:=.seq (.seq (.region [zm 59 11,zc 60 .geq 59 0]) (.cond (.l 60) (.skip) (.exit 2))) (.seq (.block 3 (.region [zm 63 6,zm 64 11,za 65 1 63 64,zd 66 1 65,⟨.l 67,.call (kF 265) [(.p 10),(.l 66)],none⟩])) (.region [zm 61 11,zc 62 .sub 61 1,zw 11 62]))
def BN:ak:=.seq (.region [zx 1 131 2 0,⟨.p 2,.mv (.c (.str [])),none⟩]) (.seq (.seq (.region [zf 12 1 1,zd 13 1 12,⟨.l 14,.eq false (.ref .slice) (.l 13) (.c (.ah)),none⟩]) (.cond (.l 14) (.seq (.region [zf 15 0 1,zd 16 1 15,z1 17 183 16,zw 2 17]) (.ret)) (.skip))) (.seq (.region [zt 19 2 1,z1 20 246 19,zn 18 20,ze 21 0 18,ze 22 1 18,zw 3 21,zw 4 22]) (.seq (.region [⟨.l 23,.eu 246 1 1 [.uV (0)] [(0,1,(kU 1000000000000000000))],none⟩,zw 5 23]) (.seq (.region [⟨.p 6,.mv (.c (.ah)),none⟩]) (.seq (.block 0 (.loop mh)) (.seq (.region [⟨.p 10,.alloc 269 [.dh,.ah],none⟩]) (.seq (.seq (.region [zm 54 3]) (.cond (.l 54) (.region [⟨.l 55,.call (kF 265) [(.p 10),(.c (.str [45]))],none⟩]) (.skip))) (.seq (.seq (.region [zm 56 6,zl 57 56,zc 58 .sub 57 1,zw 11 58]) (.block 2 (.loop wx))) (.seq (.region [⟨.l 68,.call (kF 266) [(.p 10)],none⟩,zw 2 68]) (.ret))))))))))
theorem IZ:FT 224=some ⟨69,[0,1,2,3,4,5,6,7,8,9,10,11],[.var (.p 2)],BN⟩:=by kernel_rfl
def Ja:ak:=.seq (.region [zx 1 131 2 0,⟨.p 2,.mv (.c (.bool false)),none⟩]) (.seq (.region [zt 3 2 1,z1 4 262 3,zc 5 .gtr 4 1800,zn 6 5,zg (zt 7 2 1) 6 true,zg (z1 8 224 7) 6 true,⟨.l 9,.call (kF 213) [(.l 8),(.c (.str [45]))],some ((.l 6),true)⟩,zg (zL 10 9) 6 true,zg (zc 11 .gtr 10 600) 6 true,zp 12 6 11,zw 2 12]) (.ret))
theorem VE:FT 223=some ⟨13,[0,1,2],[.var (.p 2)],Ja⟩:=by kernel_rfl
def wy:ak:=.seq (.seq (.region [zm 13 0,zL 14 13,zc 15 .gtr 14 0]) (.cond (.l 15) (.skip) (.exit 0))) (.block 1 (.seq (.region [zm 16 0,zL 17 16,⟨.l 18,.mm false [(kI 18),(.l 17)],none⟩,zw 4 18]) (.seq (.region [zm 20 0,zm 21 4,⟨.l 22,.slice .str 1 (.l 20) none (some (.l 21)) none,none⟩,z1 23 214 22,zn 19 23,ze 24 0 19,ze 25 1 19,zw 5 24,zn 7 25]) (.seq (.draw [(zt 26 2 3,[]),(⟨.l 27,.call (kF 168) [(kI 10)],none⟩,[0]),(zm 28 4,[0,1]),(z2 29 215 27 28,[0]),(z2 30 198 26 29,[]),(zm 31 5,[0,1,2,3,4]),(z1 32 168 31,[]),(z2 33 202 30 32,[]),(zs 2 3 33,[])]) (.region [zm 34 0,zm 35 4,⟨.l 36,.slice .str 1 (.l 34) (some (.l 35)) none none,none⟩,zw 0 36])))))
def Jb:ak:=.seq (.region [⟨.p 1,.alloc 131 [.iV (0),.ah],none⟩]) (.seq (.region [zm 8 0,⟨.l 9,.call (kF 212) [(.l 8),(.c (.str [45]))],none⟩,zw 2 9]) (.seq (.region [zm 10 0,⟨.l 11,.call (kF 213) [(.l 10),(.c (.str [45]))],none⟩,zw 0 11]) (.seq (.region [⟨.l 12,.build [.iV (0),.ah] [],none⟩,⟨.p 3,.alloc 131 [.iV (0),.ah],none⟩,zs 2 3 12]) (.seq (.block 0 (.loop wy)) (.seq (.seq (.region [zm 37 2]) (.cond (.l 37) (.seq (.region [zt 38 2 3,z1 39 216 38,zs 2 1 39]) (.ret)) (.skip))) (.seq (.region [zt 40 2 3,zs 2 1 40]) (.ret)))))))
theorem VF:FT 166=some ⟨41,[0,2,3,4,5,6],[.cell 2 true (.p 1)],Jb⟩:=by kernel_rfl
def Jc:ak:=.seq (.region [zx 1 133 4 0,⟨.p 2,.mv (.c (.bool false)),none⟩]) (.seq (.region [zf 3 0 1,zT 4 2 3,z1 5 223 4,zn 6 5,zg (zf 7 2 1) 6 false,zg (zT 8 2 7) 6 false,zg (z1 9 223 8) 6 false,zP 10 6 9,zw 2 10]) (.ret))
theorem VG:FT 175=some ⟨11,[0,1,2],[.var (.p 2)],Jc⟩:=by kernel_rfl
def Jd:ak:=.seq (.region [zx 1 133 4 0,⟨.p 2,.mv (.c (.str [])),none⟩]) (.seq (.seq (.region [zt 3 4 1,z1 4 201 3]) (.cond (.l 4) (.seq (.region [zf 5 0 1,zT 6 2 5,z1 7 224 6,zw 2 7]) (.ret)) (.skip))) (.seq (.draw [(zf 8 0 1,[]),(zT 9 2 8,[]),(z1 10 224 9,[]),(⟨.l 11,.bin .add (.l 10) (.c (.str [47])),none⟩,[]),(zf 12 2 1,[0,1,2,3]),(zT 13 2 12,[0,1,2,3]),(z1 14 224 13,[3]),(zb 15 .add 11 14,[]),(zw 2 15,[])]) (.ret)))
theorem VH:FT 176=some ⟨16,[0,1,2],[.var (.p 2)],Jd⟩:=by kernel_rfl
def BO:ak:=.seq (.region [⟨.p 1,.alloc 133 [.iV (0),.ah,.iV (0),.ah],none⟩]) (.seq (.region [zm 7 0,⟨.l 8,.call (kF 163) [(.l 7),(.c (.str [47]))],none⟩,zn 6 8,ze 9 0 6,ze 10 1 6,ze 11 2 6,zw 2 9,zw 3 10,zw 4 11]) (.seq (.seq (.region [zm 12 4,zu 13 12]) (.cond (.l 13) (.seq (.region [zm 14 2,z1 15 166 14,z1 16 159 15,zs 4 1 16]) (.ret)) (.skip))) (.seq (.region [zm 17 2,z1 18 166 17,zm 19 3,z1 20 166 19,⟨.l 21,.build [.iV (0),.ah,.iV (0),.ah] [(0,2,(.l 18)),(2,2,(.l 20))],none⟩,zs 4 1 21]) (.ret))))
theorem Je:FT 103=some ⟨22,[0,2,3,4,5],[.cell 4 true (.p 1)],BO⟩:=by kernel_rfl
end Go.Ab.Ch1

/-
  Own work: decimal texts of integers of any size: the parts.
-/
namespace Go.Ab.Ch1
open Go.Ab.bz
variable {M:aO} {cap:Option Nat} {N:Nat}
abbrev jb (s:al):List AV:=[.str s]
structure wz (M:aO)(N:Nat):Prop extends CI M N where
 Jf:∀z h,(-9223372036854775808<=z/\z<9223372036854775808)->M.ext 183 [.iV z] h=some ⟨.str (cK z),h,[]⟩
 BP:∀(u:Nat) h,u<18446744073709551616->M.ext 263 [.uV u,.iV 10] h=some ⟨.str (bh u),h,[]⟩
 Jg:∀(k:Nat) h,k<=64->M.ext 264 [.str [48],.iV k] h=some ⟨.str (List.replicate k 48),h,[]⟩
 Jh:∀(l:List Int) (b:Nat) c h,okW wB l->aR l->l.length<=500000->WV wB l<1000000000000000000->h.at b=some (.cells (aj [1000000000000000000]) 246)->M.ext 253 [.vs (aj l) l.length none,.sl b 0 1 1 c] h=some ⟨.ao [.ah,.vs (aj l) l.length none],h,[]⟩
 Ji:∀(l:List Int) (b:Nat) c h,okW wB l->aR l->l.length<=500000->¬WV wB l<1000000000000000000->h.at b=some (.cells (aj [1000000000000000000]) 246)->∃q r,okW wB q/\aR q/\okW wB r/\aR r/\WV wB q=WV wB l/1000000000000000000/\WV wB r=WV wB l%1000000000000000000/\M.ext 253 [.vs (aj l) l.length none,.sl b 0 1 1 c] h=some ⟨.ao [.vs (aj q) q.length none,.vs (aj r) r.length none],h,[]⟩
 BT:∀ars h,M.ext 265 ars h=none
 BU:∀ars h,M.ext 266 ars h=none
 pT:∀ars h,M.ext 303 ars h=none
 nL:∀b h,M.ext 323 [.ptr b 0] h=some ⟨.ptr b 0,h,[]⟩
theorem BV {l:List Int}(ok:okW wB l)(nr:aR l)(h:WV wB l<wB):l=[]\/∃x,l=[x]/\x=WV wB l/\0<x:=by
 have h1:=im (b:=wB) (by decide) ok nr (n:=1) (by rw[Int.pow_one];exact h)
 match l,h1 with
 | [],_=>exact .inl rfl
 | [x],_=>
  refine .inr ⟨x,rfl,by simp[WV],?_⟩
  have h2:=(ok x (by simp)).1
  have h3:=(Aw (l:=[x]) (by simp)).1 nr
  have h4:x≠0:=by simpa using h3
  omega
set_option maxRecDepth 100000 in
theorem VI (C:wz M N){Q:Ex->aq->Prop}(a0 a2 a3 a10 a11:AV)(c5:Option Nat):∀(k:Nat) (l:List Int) (acc:List al) (o:AV) (K:ae) (a7 a8 a9:AV) (lo:List (Nat×AV)) (wr:List Nat),okW wB l->aR l->l.length<=500000->WV wB l<1000000000000000000^k->acc.length+k<=10000000->dv jb 1 9 K o acc [1]->K.at 1=some (.cells (aj [1000000000000000000]) 246) ->
 (∀p4 o' K' a7 a8 a9 lo wr,dv jb 1 9 K' o' (acc++iu (WV wB l).toNat) [1]->Q (.exit 0) ⟨⟨[a0,.ptr 0 0,a2,a3,p4,.sl 1 0 1 1 c5,o',a7,a8,a9,a10,a11],lo,K',[]⟩,wr⟩) ->
 W M (.loop mh) ⟨⟨[a0,.ptr 0 0,a2,a3,.vs (aj l) l.length none,.sl 1 0 1 1 c5,o,a7,a8,a9,a10,a11],lo,K,[]⟩,wr⟩ Q:=by
 intro k
 induction k with
 | zero=>
  intro l acc o K a7 a8 a9 lo wr ok nr hl hv hk ho hK hQ
  have h0:=cO (b:=wB) (by decide) ok
  rw[Int.pow_zero]at hv
  have hz:WV wB l=0:=by omega
  have hln:l=[]:=by
   rcases BV ok nr (by rw[hz];decide) with h|⟨x,_,h1,h2⟩
   . exact h
   . omega
  subst hln
  have e0:(WV wB ([]:List Int)).toNat=0:=rfl
  rw[e0,pU,List.append_nil]at hQ
  have hl0:([]:List Int).length=0:=rfl
  refine W.loop ?_
  unfold mh
  repeat' first|apply W.seq|apply ab|apply W.region|apply WO.nil|apply W.exit|apply cj|apply dK|(apply W.aw;rfl)|(apply WO.gtr;rfl;rfl)|(apply WO.pl;rfl;rfl)|(intro _;omega)|intro _
  all_goals try omega
  all_goals exact hQ _ _ _ _ _ _ _ _ ho
 | succ k ih=>
  intro l acc o K a7 a8 a9 lo wr ok nr hl hv hk ho hK hQ
  have h0:=cO (b:=wB) (by decide) ok
  obtain⟨v,hvv⟩:∃v:Nat,WV wB l=(v:Int):=⟨(WV wB l).toNat,by omega⟩
  have et:(WV wB l).toNat=v:=by omega
  rw[et]at hQ
  have hroom:(acc.length+1)*16<=dX:=by unfold dX;omega
  have hK1:=fa hK
  refine W.loop ?_
  by_cases h1:WV wB l<1000000000000000000
  . rcases BV ok nr (Int.lt_trans h1 (by decide)) with rfl|⟨x,rfl,hx,hx0⟩
    . have hv0:v=0:=by simp[WV]at hvv;omega
      subst hv0
      rw[pU,List.append_nil]at hQ
      have hl0:([]:List Int).length=0:=rfl
      unfold mh
      repeat' first|apply W.seq|apply ab|apply W.region|apply WO.nil|apply W.exit|apply cj|apply dK|(apply W.aw;rfl)|(apply WO.gtr;rfl;rfl)|(apply WO.pl;rfl;rfl)|(intro _;omega)|intro _
      all_goals try omega
      all_goals exact hQ _ _ _ _ _ _ _ _ ho
    . have q253:=C.Jh [x] 1 c5 K ok nr hl h1 hK
      have hxv:x=(v:Int):=by omega
      have q263:=fun h=>C.BP v h (by omega)
      rw[←hxv]at q263
      have el:(([x]:List Int)[(0:Int).toNat]!)=x:=rfl
      rw[sv (by omega) (by omega)]at hQ
      have hl1:([x]:List Int).length=1:=rfl
      unfold mh
      repeat' first|(refine dv.app (f:=jb) (m:=[bh v]) (S:=[1]) (fun _=>rfl) (fun _=>rfl) (by decide) (ho.grow [_]) (by simp;omega) rfl rfl (Sl.lI (f:=jb) (esz:=1) (l:=[bh v]) (e:=9) (fun _=>rfl) cn rfl) hroom (fun H w' o' ho' hk hlen=>?_))|apply W.seq|apply ab|apply W.region|apply WO.nil|apply W.block|apply W.skip|apply bK|(apply W.ax;rfl)|(apply W.aw;rfl)|(apply WO.gtr;rfl;rfl)|(apply WO.ay;rfl;rfl;first|exact q253|exact q263 _)|(apply WO.cM;rfl;rfl;omega)|(apply WO.dV;rfl;exact fun _=>rfl;(first|omega|(simp only[List.length_set];omega)|(simp;omega));decide;rfl;case ia=>infer_instance)|(apply WO.aT;rfl;rfl;rfl)|(apply WO.pl;rfl;rfl)|(apply WO.pp;rfl;rfl)|(intro _;omega)|intro _
      all_goals try omega
      refine ef (W.loop ?_)
      repeat' first|apply W.seq|apply ab|apply W.region|apply WO.nil|apply W.exit|apply cj|apply dK|(apply W.aw;rfl)|(apply WO.gtr;rfl;rfl)|(apply WO.pl;rfl;rfl)|(intro _;omega)|intro _
      all_goals try omega
      all_goals exact hQ _ _ _ _ _ _ _ _ ho'
  . obtain⟨q,r,okq,nrq,okr,nrr,vq,vr,q253⟩:=C.Ji l 1 c5 K ok nr hl h1 hK
    have hq0:0<WV wB q:=by rw[vq];omega
    have hqne:0<q.length:=List.length_pos_iff.2 (fun e=>by rw[e]at hq0;simp[WV]at hq0)
    have hlne:0<l.length:=List.length_pos_iff.2 (fun e=>by rw[e]at h1;exact h1 (by simp[WV]))
    have hql:q.length<=500000:=by
     refine Nat.le_trans (im (b:=wB) (by decide) okq nrq (n:=l.length) ?_) hl
     have:=dN (b:=wB) (by decide) ok
     rw[vq];omega
    have hqv:WV wB q<1000000000000000000^k:=by
     rw[vq]
     rw[Int.pow_succ]at hv
     exact Int.ediv_lt_of_lt_mul (by decide) hv
    obtain⟨R,hR⟩:∃R:Nat,WV wB r=(R:Int):=⟨(WV wB r).toNat,by omega⟩
    have hRv:R=v%1000000000000000000:=by omega
    have hqn:(WV wB q).toNat=v/1000000000000000000:=by omega
    rw[sw (by omega),←hRv,←hqn]at hQ
    have hpad:=IX (k:=17) (n:=R) (by rw[hRv,show (10:Nat)^(17+1)=1000000000000000000 by rfl];omega)
    have hdl:(bh R).length<=18:=we (k:=18) (by rw[hRv,show (10:Nat)^18=1000000000000000000 by rfl];omega) (by decide)
    have hdl0:0<(bh R).length:=List.length_pos_iff.2 (kK R)
    have q264:=fun h=>C.Jg (18-(bh R).length) h (by omega)
    have rB:((18-(bh R).length:Nat):Int)=18-((bh R).length:Int):=by omega
    rw[rB]at q264
    have hrl:(List.replicate (18-(bh R).length) (48:UInt8)).length=18-(bh R).length:=by simp
    rw[show 17+1-(bh R).length=18-(bh R).length by omega]at hpad
    rw[show 17+1=18 by rfl]at hpad
    obtain⟨zs,hzs⟩:∃zs,zs=List.replicate (18-(bh R).length) (48:UInt8):=⟨_,rfl⟩
    rw[←hzs]at hpad q264 hrl
    rw[hpad]at hQ
    have fin:∀H w' o' a7 a8 a9 lo,dv jb 1 9 H o' (acc++[zs++bh R]) [1]->H.at 1=some (.cells (aj [1000000000000000000]) 246)->LQ M mh Q .normal ⟨⟨[a0,.ptr 0 0,a2,a3,.vs (aj q) q.length none,.sl 1 0 1 1 c5,o',a7,a8,a9,a10,a11],lo,H,[]⟩,w'⟩:=fun H w' o' a7 a8 a9 lo ho' hH=>
     ef (ih q _ _ _ _ _ _ _ _ okq nrq hql hqv (by simp;omega) ho' hH (fun p4 o2 K2 a7 a8 a9 lo wr ho2=>hQ _ _ _ _ _ _ _ _ (by rw[List.append_assoc]at ho2;exact ho2)))
    rcases BV okr nrr (by
                                rw[vr];have:(1000000000000000000:Int)<wB:=by decide
                                omega) with rfl|⟨x,rfl,hx,hx0⟩
    . have hR0:R=0:=by simp[WV]at hR;omega
      subst hR0
      have hd0:bh 0=[48]:=gN (by decide)
      rw[hd0]at fin hrl hdl q264 hdl0
      have hr0:([]:List Int).length=0:=rfl
      have h48:([48]:al).length=1:=rfl
      unfold mh
      repeat' first|(refine dv.app (f:=jb) (m:=[zs++[48]]) (S:=[1]) (fun _=>rfl) (fun _=>rfl) (by decide) (ho.grow [_]) (by simp;omega) rfl rfl (Sl.lI (f:=jb) (esz:=1) (l:=[zs++[48]]) (e:=9) (fun _=>rfl) cn rfl) hroom (fun H w' o' ho' hk hlen=>?_))|apply W.seq|apply ab|apply W.region|apply WO.nil|apply W.block|apply W.skip|apply bK|(apply W.ax;rfl)|(apply W.aw;rfl)|(apply WO.gtr;rfl;rfl)|(apply WO.sub;rfl;rfl;omega)|(apply WO.cat;rfl;rfl;first|omega|(simp only[List.length_append,List.length_cons,List.length_nil];omega)|(simp;omega))|(apply WO.ay;rfl;rfl;first|exact q253|exact q264 _)|(apply WO.aT;rfl;rfl;rfl)|(apply WO.pl;rfl;rfl)|(apply WO.pp;rfl;rfl)|(intro _;omega)|intro _
      all_goals try omega
      all_goals exact fin _ _ _ _ _ _ _ ho' (hk _ _ (by simp) (cG hK))
    . have hxv:x=(R:Int):=by omega
      have q263:=fun h=>C.BP R h (by omega)
      rw[←hxv]at q263
      have el:(([x]:List Int)[(0:Int).toNat]!)=x:=rfl
      have hl1:([x]:List Int).length=1:=rfl
      unfold mh
      repeat' first|(refine dv.app (f:=jb) (m:=[zs++bh R]) (S:=[1]) (fun _=>rfl) (fun _=>rfl) (by decide) (ho.grow [_]) (by simp;omega) rfl rfl (Sl.lI (f:=jb) (esz:=1) (l:=[zs++bh R]) (e:=9) (fun _=>rfl) cn rfl) hroom (fun H w' o' ho' hk hlen=>?_))|apply W.seq|apply ab|apply W.region|apply WO.nil|apply W.block|apply W.skip|apply bK|(apply W.ax;rfl)|(apply WO.gtr;rfl;rfl)|(apply WO.sub;rfl;rfl;omega)|(apply WO.cat;rfl;rfl;first|omega|(simp only[List.length_append,List.length_cons,List.length_nil];omega)|(simp;omega))|(apply WO.ay;rfl;rfl;first|exact q253|exact q263 _|exact q264 _)|(apply WO.cM;rfl;rfl;omega)|(apply WO.dV;rfl;exact fun _=>rfl;(first|omega|(simp only[List.length_set];omega)|(simp;omega));decide;rfl;case ia=>infer_instance)|(apply WO.aT;rfl;rfl;rfl)|(apply WO.pl;rfl;rfl)|(apply WO.pp;rfl;rfl)|(intro _;omega)|intro _
      all_goals try omega
      all_goals exact fin _ _ _ _ _ _ _ ho' (hk _ _ (by simp) (cG hK))
end Go.Ab.Ch1

/-
  Own work: decimal texts of integers of any size.
-/
namespace Go.Ab.Ch1
open Go.Ab.bz
variable {M:aO} {cap:Option Nat} {N:Nat}
def jc (l:List al)(i:Nat):al:=(l.drop i).reverse.flatten
theorem VJ {l:List al}:jc l 0=l.reverse.flatten:=rfl
theorem Jj {l:List al}:jc l l.length=[]:=by rw[jc,List.drop_length];rfl
theorem VK {l:List al}{i:Nat}(h:i<l.length):jc l i=jc l (i+1)++l[i]! := by
 rw[jc,jc,List.drop_eq_getElem_cons h,List.reverse_cons,List.flatten_append,getElem!_pos l i h]
 simp
theorem gY.ctx {g:Nat}{ars:List AV}{h:ae}{P:HR->Prop}(hn:M.ext g ars h=none)(hr:gY M g ars h P):∃v H wr,P ⟨v,H,wr⟩/\CT M (ir g) ars h ⟨v,H,wr⟩:=by
 obtain⟨⟨⟨v,H,wr⟩,h1,h2⟩⟩:=hr
 exact⟨v,H,wr,h2,CT.run (fi:=[]) (ca:=[]) (by simpa using hn) (by simpa using h1)⟩
set_option maxRecDepth 100000 in
theorem Jk (C:wz M N){Q:Ex->aq->Prop}(parts:List al)(hp0:∀x∈parts,x≠[])(hp18:∀x∈parts,x.length<=18)(hlen:parts.length<20000000)(c B:Nat)(hcB:c<B)(pre:al)(hpre:pre.length<=1)(a0 a1 a2 a3 a4 a5 a7 a8 a9:AV)
 (hQ:∀K lo wr,nK (B+1) K B (pre++parts.reverse.flatten)->B+1<=K.length->Q (.exit 2) ⟨⟨[a0,a1,a2,a3,a4,a5,.sl c 0 parts.length 1 none,a7,a8,a9,.ptr B 0,.iV (-1)],lo,K,[]⟩,wr⟩) :
 ∀(i:Nat) (K:ae) (lo:List (Nat×AV)) (wr:List Nat),i<=parts.length->K.at c=some (.cells (arr jb parts) 9)->nK (B+1) K B (pre++jc parts i)->B+1<=K.length ->
 W M (.loop wx) ⟨⟨[a0,a1,a2,a3,a4,a5,.sl c 0 parts.length 1 none,a7,a8,a9,.ptr B 0,.iV ((i:Int)-1)],lo,K,[]⟩,wr⟩ Q:=by
 have tl:∀i,(jc parts i).length<=18*parts.length:=fun i=>by
  rw[jc,List.length_flatten]
  have:∀l:List al,(∀x∈l,x.length<=18)->(l.map List.length).sum<=18*l.length:=by
   intro l
   induction l with
   | nil=>intro _;simp
   | cons x l ih=>
    intro h
    have h1:=h x (by simp)
    have h2:=ih fun y hy=>h y (by simp[hy])
    simp only[List.map_cons,List.sum_cons,List.length_cons]
    omega
  refine Nat.le_trans (this _ fun x hx=>hp18 x (List.mem_of_mem_drop (List.mem_reverse.1 hx))) ?_
  simp;omega
 intro i
 induction i with
 | zero=>
  intro K lo wr hi hc hB hK
  rw[VJ]at hB
  refine W.loop ?_
  unfold wx
  repeat' first|apply W.seq|apply ab|apply W.region|apply WO.nil|apply W.exit|apply cj|apply dK|(apply W.aw;rfl)|(apply WO.geq;rfl;rfl)|(apply WO.pl;rfl;rfl)|(intro _;omega)|intro _
  all_goals try omega
  all_goals exact hQ _ _ _ hB hK
 | succ i ih=>
  intro K lo wr hi hc hB hK
  have mO:i<parts.length:=by omega
  have e0:(((i+1:Nat):Int)-1)=(i:Int):=by omega
  rw[e0]
  have hx0:=hp0 parts[i]! (by rw[getElem!_pos parts i mO];exact List.getElem_mem mO)
  have hx18:=hp18 parts[i]! (by rw[getElem!_pos parts i mO];exact List.getElem_mem mO)
  have hal:(pre++jc parts (i+1)).length<900000000:=by
   have:=tl (i+1)
   rw[List.length_append];omega
  obtain⟨v,H,wr',⟨hv,hB',hk,hw,_⟩,q265⟩:=gY.ctx (C.BT _ _) (IV C.ft C.pT C.nL (B+1) B K (pre++jc parts (i+1)) parts[i]! ⟨by omega,hK⟩ hx0 (by omega) hB)
  simp only at hv hB' hk hw
  subst hv
  have hc':H.at c=some (.cells (arr jb parts) 9):=(IT (hk.at' c (by omega) (by omega))).trans hc
  have hH:=hk.len
  rw[List.append_assoc,←VK mO]at hB'
  rw[show parts[i]! = parts[((i:Int)).toNat]! from rfl]at q265
  refine W.loop ?_
  unfold wx
  repeat' first|apply W.seq|apply ab|apply W.region|apply WO.nil|apply W.block|apply W.skip|apply bK|(apply W.ax;rfl)|(apply WO.geq;rfl;rfl)|(apply WO.sub;rfl;rfl;omega)|(apply WO.ct;rfl;rfl;first|exact q265)|(apply WO.bY;rfl;rfl;omega)|(apply WO.OH;rfl;(first|rfl|assumption|exact cn|(apply cG;assumption)|(apply cI;first|assumption|(simp only[fq];assumption)));exact fun _=>rfl;(first|omega|(simp only[List.length_set];omega)|(simp;omega));decide;rfl;case ia=>infer_instance)|(apply WO.pl;rfl;rfl)|(apply WO.pp;rfl;rfl)|(intro _;omega)|intro _
  all_goals try omega
  all_goals exact ef (ih H _ _ (by omega) hc' hB' (by omega))
theorem mi {z:Int}(h:z<0):cK z=45::bh (an z).toNat:=by
 rw[cK,if_pos h];unfold an;rw[if_pos h]
theorem jX {z:Int}(h:¬z<0):cK z=bh (an z).toNat:=by
 rw[cK,if_neg h];unfold an;rw[if_neg h]
set_option maxRecDepth 100000 in
theorem VM (C:wz M N){v:AV}{z:Int}(hv:aL v z)(lz:an z<wB^N):aZ M 224 [v] [] ⟨.str (cK z),[],[]⟩:=by
 cases hv with
 | small h=>
  have q183:=fun hh=>C.Jf z hh h
  refine bT (by rw[C.ft];exact IZ) (by simp) ?_
  unfold BN
  simp only[enter]
  repeat' first|apply W.seq|apply ab|apply W.region|apply WO.nil|apply W.ret|apply ba|(apply W.ax;rfl)|(apply WO.ay;rfl;rfl;first|exact q183 _)|(apply WO.aT;rfl;rfl;rfl)|(apply WO.aX;rfl;rfl;rfl)|(apply WO.pl;rfl;rfl)|(apply WO.pp;rfl;rfl)
  all_goals try omega
  all_goals exact⟨.inr rfl,rfl,_,rfl,rfl,rfl⟩
 | @eC σ z w hs ok nr hw hz=>
  have hv:aL (.agg [.iV σ,.vs (aj w) w.length none]) z:=.eC hs ok nr hw hz
  obtain⟨x,l,hx,ol,nl,hl,q246⟩:=C.jT _ z hv
  have len:=C.len ol nl hl lz
  have habs:an z≠0:=by
   unfold an;split <;> rcases hs with rfl|rfl <;> omega
  have hl0:l≠[]:=fun e=>by rw[e]at hl;exact habs (by simpa[WV] using hl.symm)
  have hxl:x = .vs (aj l) l.length none:=by
   rcases hx with h|⟨_,h⟩
   . exact h
   . exact absurd h hl0
  subst hxl
  have hn0:(an z).toNat≠0:=by have:=iq (x:=z);omega
  have hcat:=VB hn0
  have hlt:WV wB l<1000000000000000000^(2*N):=by
   rw[hl,Int.pow_mul]
   refine Int.lt_of_lt_of_le lz ?_
   have:∀n:Nat,wB^n<=((1000000000000000000:Int)^2)^n:=by
    intro n
    induction n with
    | zero=>decide
    | succ n ih=>
     rw[Int.pow_succ,Int.pow_succ]
     exact Int.mul_le_mul ih (by decide) (by decide) (Int.pow_nonneg (by decide))
   exact this N
  have hlN:=C.lN
  cases w with
  | nil=>simp[WV]at hw
  | cons y w=>
  have pne:=VC (n:=(an z).toNat)
  have p18:=VD (n:=(an z).toNat)
  obtain⟨parts,hparts⟩:∃parts,parts=iu (an z).toNat:=⟨_,rfl⟩
  rw[←hparts]at hcat pne p18
  have hltN:(an z).toNat<1000000000000000000^(2*N):=by
   have h1:=hlt
   rw[hl,←Int.toNat_of_nonneg (iq (x:=z))]at h1
   obtain⟨n,hn⟩:∃n,n=(an z).toNat:=⟨_,rfl⟩
   obtain⟨m,hm⟩:∃m,m=2*N:=⟨_,rfl⟩
   rw[←hn,←hm]at h1 ⊢
   have h2:(1000000000000000000:Int)^m=((1000000000000000000^m:Nat):Int):=(Int.natCast_pow 1000000000000000000 m).symm
   rw[h2]at h1
   exact Int.ofNat_lt.1 h1
  have iB:parts.length<20000000:=by
   have:=IY (n:=(an z).toNat) (k:=2*N) hltN
   rw[←hparts]at this;omega
  have dlen:(bh (an z).toNat).length<500000000:=by
   have:=we (n:=(an z).toNat) (k:=18*(2*N)+1) (by
    have h2:=hltN
    rw[show (1000000000000000000:Nat)=10^18 by rfl,←Nat.pow_mul]at h2
    exact Nat.lt_of_lt_of_le h2 (Nat.pow_le_pow_right (by decide) (by omega))) (by omega)
   omega
  have hpne:parts≠[]:=fun e=>by rw[e]at hcat;exact kK _ hcat.symm
  have lp:=fun (Q:Ex->aq->Prop) a0 a2 a3 a10 a11 c5 K hK a7 a8 a9 lo wr hQ=>VI C (Q:=Q) a0 a2 a3 a10 a11 c5 (2*N) l [] .ah K a7 a8 a9 lo wr ol nl len hlt (by simp;omega) .um hK hQ
  rw[hl,←hparts]at lp
  refine bT (by rw[C.ft];exact IZ) (by simp) ?_
  unfold BN
  simp only[enter]
  by_cases hn:z<0
  . rw[decide_eq_true hn]at q246
    rw[mi hn]
    repeat' first|apply W.seq|apply ab|apply W.region|apply WO.nil|apply W.block|apply W.skip|(apply W.aw;rfl)|(apply WO.ay;rfl;rfl;first|exact q246 _)|(apply WO.aT;rfl;rfl;rfl)|(apply WO.aX;rfl;rfl;rfl)|(apply WO.pl;rfl;rfl)|(apply WO.pp;rfl;rfl)
    all_goals try omega
    refine lp _ _ _ _ _ _ _ _ rfl _ _ _ _ _ (fun p4 o K a7 a8 a9 lo wr ho=>?_)
    rw[List.nil_append]at ho
    rcases ho with ⟨h1,_⟩|⟨c,cp,hc1,rfl,hc,hcap⟩
    . exact absurd h1 hpne
    obtain rfl:cp=none:=hcap.resolve_right fun h=>hpne h.1
    have hcl:=fa hc
    have hB0:nK (K.length+1) (K++[some (.cells [.dh,.ah] 269)]) K.length []:=.inl ⟨rfl,cn⟩
    obtain⟨v,H,wr',⟨hv',hB',hk,hw',_⟩,q265⟩:=gY.ctx (C.BT _ _) (IV C.ft C.pT C.nL (K.length+1) K.length _ [] [45] ⟨by omega,by rw[List.length_append];exact Nat.le_refl _⟩ (by decide) (by decide) hB0)
    simp only at hv' hB' hk hw'
    subst hv'
    have hc':H.at c=some (.cells (arr jb parts) 9):=(IT (hk.at' c (by omega) (by omega))).trans (cG hc)
    have hH:=hk.len
    simp only[List.length_append,List.length_cons,List.length_nil]at hH
    repeat' first|apply W.seq|apply ab|apply W.region|apply WO.nil|apply W.block|apply cg|(apply W.ax;rfl)|(apply WO.sub;rfl;rfl;omega)|(apply WO.ct;rfl;rfl;first|exact q265)|(apply WO.aX;rfl;rfl;rfl)|(apply WO.pl;rfl;rfl)|(apply WO.pp;rfl;rfl)
    refine Jk C parts pne p18 iB c K.length hcl [45] (by decide) _ _ _ _ _ _ _ _ _ (fun K2 lo wr hB2 hK2=>?_) parts.length H _ _ (Nat.le_refl _) hc' (by rw[Jj];exact hB') (by omega)
    rw[hcat]at hB2
    obtain⟨v2,H2,wr2,⟨hv2,_⟩,q266⟩:=gY.ctx (C.BU _ _) (IW C.ft (K.length+1) K.length K2 _ hB2 (by simp) (by simp only[List.length_append,List.length_cons,List.length_nil];omega) ⟨by omega,hK2⟩)
    simp only at hv2
    subst hv2
    repeat' first|apply W.seq|apply ab|apply W.region|apply WO.nil|apply W.ret|apply cg|(apply WO.ct;rfl;rfl;first|exact q266)|(apply WO.pp;rfl;rfl)
    all_goals exact⟨.inr rfl,rfl,_,rfl,rfl,rfl⟩
  . rw[decide_eq_false hn]at q246
    rw[jX hn]
    repeat' first|apply W.seq|apply ab|apply W.region|apply WO.nil|apply W.block|apply W.skip|(apply W.aw;rfl)|(apply WO.ay;rfl;rfl;first|exact q246 _)|(apply WO.aT;rfl;rfl;rfl)|(apply WO.aX;rfl;rfl;rfl)|(apply WO.pl;rfl;rfl)|(apply WO.pp;rfl;rfl)
    all_goals try omega
    refine lp _ _ _ _ _ _ _ _ rfl _ _ _ _ _ (fun p4 o K a7 a8 a9 lo wr ho=>?_)
    rw[List.nil_append]at ho
    rcases ho with ⟨h1,_⟩|⟨c,cp,hc1,rfl,hc,hcap⟩
    . exact absurd h1 hpne
    obtain rfl:cp=none:=hcap.resolve_right fun h=>hpne h.1
    have hcl:=fa hc
    have hB0:nK (K.length+1) (K++[some (.cells [.dh,.ah] 269)]) K.length []:=.inl ⟨rfl,cn⟩
    repeat' first|apply W.seq|apply ab|apply W.region|apply WO.nil|apply W.block|apply W.skip|apply cg|(apply W.aw;rfl)|(apply WO.sub;rfl;rfl;omega)|(apply WO.aX;rfl;rfl;rfl)|(apply WO.pl;rfl;rfl)|(apply WO.pp;rfl;rfl)
    refine Jk C parts pne p18 iB c K.length hcl [] (by decide) _ _ _ _ _ _ _ _ _ (fun K2 lo wr hB2 hK2=>?_) parts.length _ _ _ (Nat.le_refl _) (cG hc) (by rw[Jj];exact hB0) (by rw[List.length_append];exact Nat.le_refl _)
    rw[hcat]at hB2
    obtain⟨v2,H2,wr2,⟨hv2,_⟩,q266⟩:=gY.ctx (C.BU _ _) (IW C.ft (K.length+1) K.length K2 _ hB2 (by simp[kK]) (by simp only[List.length_append,List.length_cons,List.length_nil];omega) ⟨by omega,hK2⟩)
    simp only at hv2
    subst hv2
    repeat' first|apply W.seq|apply ab|apply W.region|apply WO.nil|apply W.ret|apply cg|(apply WO.ct;rfl;rfl;first|exact q266)|(apply WO.pp;rfl;rfl)
    all_goals exact⟨.inr rfl,rfl,_,rfl,rfl,rfl⟩
end Go.Ab.Ch1

/-
  Own work: decimal texts of fractions; fractions that are not large.
-/
namespace Go.Ab.Ch1
open Go.Ab.bz
variable {M:aO} {cap:Option Nat} {N N2:Nat}
def aY (q:Rat):al:=if q.den=1 then cK q.num else cK q.num++47::bh q.den
theorem VN (hft:M.FT=FT){v:AV}{z:Int}(hv:aL v z)(lz:an z<2^1800)(c262:∀h,M.ext 262 [v] h=some ⟨.iV (cd (an z)),h,[]⟩):aZ M 223 [v] [] ⟨.bool false,[],[]⟩:=by
 have hb:=nt (x:=an z) (n:=1800) lz iq
 obtain⟨s,w,rfl,o,_⟩:=hv.shape
 obtain⟨k,hk⟩:∃k,k=cd (an z):=⟨_,rfl⟩
 rw[←hk]at hb c262
 refine bT (by rw[hft];exact VE) (by simp) ?_
 unfold Ja
 simp only[enter]
 repeat' first|apply W.seq|apply ab|apply W.region|apply WO.nil|apply W.ret|(apply WO.sT;rfl)|(apply WO.gtr;rfl;rfl)|(apply WO.bx;rfl;rfl)|(apply WO.ay;rfl;rfl;first|exact c262 _)|(apply WO.aT;rfl;rfl;rfl)|(apply WO.aX;rfl;rfl;rfl)|(apply WO.pl;rfl;rfl)|(apply WO.pp;rfl;rfl)|(intro _;omega)|intro _
 all_goals try omega
 all_goals exact⟨.inr rfl,rfl,_,rfl,rfl,rfl⟩
theorem VP (hft:M.FT=FT){v:AV}{q:Rat}(hv:bm v q)(l1:an q.num<2^1800)(l2:(q.den:Int)<2^1800)(c223:∀v z h,aL v z->an z<2^1800->M.ext 223 [v] h=some ⟨.bool false,h,[]⟩):aZ M 175 [v] [] ⟨.bool false,[],[]⟩:=by
 obtain⟨s1,w1,s2,w2,rfl,h1,h2⟩:=hv
 have dq:=den_pos (q:=q)
 have qa:=fun h=>c223 _ _ h h1 l1
 have qb:=fun h=>c223 _ _ h h2 (by rw[cQ (by omega)];exact l2)
 refine bT (by rw[hft];exact VG) (by simp) ?_
 unfold Jc
 simp only[enter]
 repeat' first|apply W.seq|apply ab|apply W.region|apply WO.nil|apply W.ret|(apply WO.gF;rfl)|(apply WO.bx;rfl;rfl)|(apply WO.ay;rfl;rfl;first|exact qa _|exact qb _)|(apply WO.aT;rfl;rfl;rfl)|(apply WO.aX;rfl;rfl;rfl)|(apply WO.pl;rfl;rfl)|(apply WO.pp;rfl;rfl)
 all_goals exact⟨.inr rfl,rfl,_,rfl,rfl,rfl⟩
theorem VQ (n:Nat):cK (n:Int)=bh n:=by
 rw[cK,if_neg (by omega)];rfl
theorem VR (hft:M.FT=FT){v:AV}{q:Rat}(hv:bm v q)(hb:(cK q.num).length<1000000000/\(bh q.den).length<1000000000)(mc:∀h,M.ext 201 [v] h=some ⟨.bool (decide (q.den=1)),h,[]⟩)(ca:∀v h,aL v q.num->M.ext 224 [v] h=some ⟨.str (cK q.num),h,[]⟩)(cb:∀v h,aL v q.den->M.ext 224 [v] h=some ⟨.str (bh q.den),h,[]⟩):aZ M 176 [v] [] ⟨.str (aY q),[],[]⟩:=by
 obtain⟨s1,w1,s2,w2,rfl,h1,h2⟩:=hv
 have qa:=fun h=>ca _ h h1
 have qb:=fun h=>cb _ h h2
 have h47:([47]:al).length=1:=rfl
 refine bT (by rw[hft];exact VH) (by simp) ?_
 unfold Jd
 simp only[enter]
 by_cases hd:q.den=1
 . rw[decide_eq_true hd]at mc
   rw[aY,if_pos hd]
   repeat' first|(apply WO.ay;rfl;rfl;first|exact qa _|exact qb _)|apply W.seq|apply ab|apply W.region|apply WO.nil|apply W.ret|apply ba|(apply W.ax;rfl)|(apply WO.ay;rfl;rfl;first|exact mc _|exact qa _)|(apply WO.aT;rfl;rfl;rfl)|(apply WO.aX;rfl;rfl;rfl)|(apply WO.pl;rfl;rfl)|(apply WO.pp;rfl;rfl)
   all_goals exact⟨.inr rfl,rfl,_,rfl,rfl,rfl⟩
 . rw[decide_eq_false hd]at mc
   rw[aY,if_neg hd]
   obtain⟨x,hx⟩:∃x,x=cK q.num:=⟨_,rfl⟩
   obtain⟨y,hy⟩:∃y,y=bh q.den:=⟨_,rfl⟩
   rw[←hx]at qa hb ⊢
   rw[←hy]at qb hb ⊢
   have hxl:(x++[47]:al).length=x.length+1:=by simp
   repeat' first|(apply WD.dL;rfl;rfl;(first|(simp only[nca];rfl)|rfl);first|exact qa _|exact qb _)|apply W.seq|apply ab|apply W.region|apply WO.nil|apply W.ret|apply W.skip|apply W.draw|apply WD.nil|(apply WD.dE;rfl)|(apply WD.dc;rfl;rfl;(first|(simp only[nca];rfl)|rfl))|(apply W.aw;rfl)|(apply WO.cat;rfl;rfl;first|omega|(simp only[List.length_append,List.length_cons,List.length_nil];omega)|(simp;omega))|(apply WO.ay;rfl;rfl;first|exact mc _)|(apply WO.aT;rfl;rfl;rfl)|(apply WO.aX;rfl;rfl;rfl)|(apply WO.pl;rfl;rfl)|(apply WO.pp;rfl;rfl)
   all_goals exact⟨.inr rfl,rfl,_,rfl,by simp[bg],rfl⟩
end Go.Ab.Ch1

/-
  Own work: the code of functions: prefixes, cuts, trimmed texts, read integers.
-/
namespace Go.Ab.Ch1
set_option maxRecDepth 1000000
def wA:List AV:=[.bool false,.bool false,.bool false,.bool false,.bool false,.bool false,.bool false,.bool false,.bool false,.bool false,.bool false,.bool false,.bool false,.bool false,.bool false,.bool false,.bool false,.bool false,.bool false,.bool false,.bool false,.bool false,.bool false,.bool false,.bool false,.bool false,.bool false,.bool false,.bool false,.bool false,.bool false,.bool false,.bool false,.bool false,.bool false,.bool false,.bool false,.bool false,.bool false,.bool false,.bool false,.bool false,.bool false,.bool false,.bool false,.bool false,.bool false,.bool false,.bool false,.bool false,.bool false,.bool false,.bool false,.bool false,.bool false,.bool false,.bool false,.bool false,.bool false,.bool false,.bool false,.bool false,.bool false,.bool false,.bool false,.bool false,.bool false,.bool false,.bool false,.bool false,.bool false,.bool false,.bool false,.bool false,.bool false,.bool false,.bool false,.bool false,.bool false,.bool false,.bool false,.bool false,.bool false,.bool false,.bool false,.bool false,.bool false,.bool false,.bool false,.bool false,.bool false,.bool false,.bool false,.bool false,.bool false,.bool false,.bool false,.bool false,.bool false,.bool false,.bool false,.bool false,.bool false,.bool false,.bool false,.bool false,.bool false,.bool false,.bool false,.bool false,.bool false,.bool false,.bool false,.bool false,.bool false,.bool false,.bool false,.bool false,.bool false,.bool false,.bool false,.bool false,.bool false,.bool false,.bool false,.bool false,.bool false,.bool false,.bool false,.bool false,.bool false,.bool false,.bool false,.bool false,.bool false,.bool false,.bool false,.bool false,.bool false,.bool false,.bool false,.bool false,.bool false,.bool false,.bool false,.bool false,.bool false,.bool false,.bool false,.bool false,.bool false,.bool false,.bool false,.bool false,.bool false,.bool false,.bool false,.bool false,.bool false,.bool false,.bool false,.bool false,.bool false,.bool false,.bool false,.bool false,.bool false,.bool false,.bool false,.bool false,.bool false,.bool false,.bool false,.bool false,.bool false,.bool false,.bool false,.bool false,.bool false,.bool false,.bool false,.bool false,.bool false,.bool false,.bool false,.bool false,.bool false,.bool false,.bool false,.bool false,.bool false,.bool false,.bool false,.bool false,.bool false,.bool false,.bool false,.bool false,.bool false,.bool false,.bool false,.bool false,.bool false,.bool false,.bool false,.bool false,.bool false,.bool false,.bool false,.bool false,.bool false,.bool false,.bool false,.bool false,.bool false,.bool false,.bool false,.bool false,.bool false,.bool false,.bool false,.bool false,.bool false,.bool false,.bool false,.bool false,.bool false,.bool false,.bool false,.bool false,.bool false,.bool false,.bool false,.bool false,.bool false,.bool false,.bool false,.bool false,.bool false,.bool false,.bool false,.bool false,.bool false,.bool false,.bool false,.bool false,.bool false,.bool false,.bool false,.bool false,.bool false,.bool false,.bool false,.bool false,.bool false,.bool false]
def Jl:ak:=.seq (.region [⟨.p 2,.mv (.c (.bool false)),none⟩]) (.seq (.region [zm 5 0,zm 6 1,z2 7 255 5 6,zw 2 7]) (.ret))
theorem VT:FT 212=some ⟨8,[0,1,4],[.var (.p 2)],Jl⟩:=by kernel_rfl
def BW:ak:=.seq (.region [⟨.p 2,.mv (.c (.bool false)),none⟩]) (.seq (.region [zm 5 0,zL 6 5,zm 7 1,zL 8 7,zb 9 .geq 6 8,zn 10 9,zg (zm 11 0) 10 true,zg (zm 12 1) 10 true,zg (zL 13 12) 10 true,⟨.l 14,.slice .str 1 (.l 11) none (some (.l 13)) none,some ((.l 10),true)⟩,zg (zm 15 1) 10 true,zg (zb 16 .eql 14 15) 10 true,zp 17 10 16,zw 2 17]) (.ret))
theorem VU:FT 255=some ⟨18,[0,1,4],[.var (.p 2)],BW⟩:=by kernel_rfl
def Jm:ak:=.seq (.region [⟨.p 2,.mv (.c (.str [])),none⟩]) (.seq (.region [zm 5 0,zm 6 1,z2 7 258 5 6,zw 2 7]) (.ret))
theorem VV:FT 213=some ⟨8,[0,1,4],[.var (.p 2)],Jm⟩:=by kernel_rfl
def Jn:ak:=.seq (.region [⟨.p 2,.mv (.c (.str [])),none⟩]) (.seq (.seq (.region [zm 5 0,zm 6 1,z2 7 255 5 6]) (.cond (.l 7) (.seq (.region [zm 8 0,zm 9 1,zL 10 9,⟨.l 11,.slice .str 1 (.l 8) (some (.l 10)) none none,none⟩,zw 2 11]) (.ret)) (.skip))) (.seq (.region [zm 12 0,zw 2 12]) (.ret)))
theorem VW:FT 258=some ⟨13,[0,1,4],[.var (.p 2)],Jn⟩:=by kernel_rfl
def Jo:ak:=.seq (.region [zi 1 0,⟨.p 2,.mv (.c (.cU)),none⟩]) (.seq (.region [zm 7 0,z1 8 259 7,zn 6 8,ze 9 0 6,ze 10 1 6,zw 3 9,zw 4 10]) (.seq (.seq (.region [zm 11 4,⟨.l 12,.eq true (.iface false) (.l 11) (.c (.cU)),none⟩]) (.cond (.l 12) (.seq (.region [zm 13 3,zm 14 0,zm 15 4,⟨.l 16,.call (kF 260) [(.c (.str zD8)),(.l 14),(kI 0),(kI 0),(.l 15)],none⟩,zw 1 13,zw 2 16]) (.ret)) (.skip))) (.seq (.region [zm 17 3,zw 1 17,⟨.p 2,.mv (.c (.cU)),none⟩]) (.ret))))
theorem VX:FT 214=some ⟨18,[0,2,3,4,5],[.var (.p 1),.var (.p 2)],Jo⟩:=by kernel_rfl
def wC:ak:=.seq (.region [zr 50 .lss 11 10]) (.seq (.cond (.l 50) (.skip) (.exit 0)) (.seq (.block 1 (.seq (.region [⟨.l 51,.dw none 1 (.p 9) (.p 11),none⟩,zd 52 1 51,zw 6 52]) (.seq (.region [zm 53 6,⟨.l 54,.bin .sub (.l 53) (.c (.int .u8 (48))),none⟩,zw 6 54]) (.seq (.seq (.region [zm 55 6,⟨.l 56,.bin .gtr (.l 55) (.c (.int .u8 (9))),none⟩]) (.cond (.l 56) (.seq (.region [⟨.l 57,.qu 291 (kI 2),none⟩,zi 1 0,zw 2 57]) (.ret)) (.skip))) (.region [zm 58 5,zc 59 .mul 58 10,zm 60 6,⟨.l 61,.du .i64 (.l 60),none⟩,zb 62 .add 59 61,zw 5 62]))))) (.region [zq 63 .add 11 1,zw 11 63])))
def Jp:ak:=.seq (.region [zi 1 0,⟨.p 2,.mv (.c (.cU)),none⟩]) (.seq (.region [zm 11 0,zL 12 11,zw 3 12]) (.seq (.seq (.region [⟨.l 13,.mv (.c (.bool false)),none⟩,zg (zm 14 3) 13 true,⟨.l 15,.bin .lss (kI 0) (.l 14),some ((.l 13),true)⟩,zg (zn 16 15) 13 true,zg (zm 17 3) 16 true,zg (zc 18 .lss 17 10) 16 true,zg (zp 19 16 18) 13 true,zp 20 13 19,zn 21 20,⟨.l 22,.mv (.c (.bool true)),some ((.l 21),false)⟩,zg (zm 23 3) 22 true,⟨.l 24,.bin .lss (kI 0) (.l 23),some ((.l 22),true)⟩,zg (zn 25 24) 22 true,zg (zm 26 3) 25 true,zg (zc 27 .lss 26 19) 25 true,zg (zp 28 25 27) 22 true,zg (zp 29 22 28) 21 false,zP 30 21 29]) (.cond (.l 30) (.seq (.region [zm 31 0,zw 4 31]) (.seq (.seq (.region [zm 32 0,⟨.l 33,.index (.l 32) (kI 0),none⟩,⟨.l 34,.bin .eql (.l 33) (.c (.int .u8 (45))),none⟩,zn 35 34,zg (zm 36 0) 35 false,⟨.l 37,.index (.l 36) (kI 0),some ((.l 35),false)⟩,⟨.l 38,.bin .eql (.l 37) (.c (.int .u8 (43))),some ((.l 35),false)⟩,zP 39 35 38]) (.cond (.l 39) (.seq (.region [zm 40 0,⟨.l 41,.slice .str 1 (.l 40) (some (kI 1)) none none,none⟩,zw 0 41]) (.seq (.region [zm 42 0,zL 43 42,zc 44 .lss 43 1]) (.cond (.l 44) (.seq (.region [⟨.l 45,.qu 291 (kI 2),none⟩,zi 1 0,zw 2 45]) (.ret)) (.skip)))) (.skip))) (.seq (.region [zi 5 0]) (.seq (.seq (.region [zm 46 0,⟨.p 9,.oc 5 (.l 46),none⟩,⟨.p 10,.len .sl (.p 9),none⟩,zi 11 0]) (.block 0 (.loop wC))) (.seq (.seq (.region [zm 64 4,⟨.l 65,.index (.l 64) (kI 0),none⟩,⟨.l 66,.bin .eql (.l 65) (.c (.int .u8 (45))),none⟩]) (.cond (.l 66) (.region [zm 67 5,⟨.l 68,.un .neg (.l 67),none⟩,zw 5 68]) (.skip))) (.seq (.region [zm 69 5,zw 1 69,⟨.p 2,.mv (.c (.cU)),none⟩]) (.ret))))))) (.skip))) (.seq (.region [zm 71 0,⟨.l 72,.call (kF 293) [(.l 71),(kI 10),(kI 0)],none⟩,zn 70 72,ze 73 0 70,ze 74 1 70,zw 7 73,zw 8 74]) (.seq (.region [zm 75 7,zm 76 8,zw 1 75,zw 2 76]) (.ret)))))
theorem VY:FT 259=some ⟨77,[0,2,3,4,5,6,8,9,10,47,48,49],[.var (.p 1),.var (.p 2)],Jp⟩:=by kernel_rfl
def Jq:ak:=.seq (.region [⟨.p 2,.mv (.c (.str [])),none⟩,⟨.p 3,.mv (.c (.str [])),none⟩,⟨.p 4,.mv (.c (.bool false)),none⟩]) (.seq (.region [zm 7 0,zm 8 1,z2 9 208 7 8,ze 10 0 9,ze 11 1 9,ze 12 2 9,zw 2 10,zw 3 11,zw 4 12]) (.ret))
theorem VZ:FT 163=some ⟨13,[0,1,4,5,6],[.var (.p 2),.var (.p 3),.var (.p 4)],Jq⟩:=by kernel_rfl
def BX:ak:=.seq (.region [⟨.p 2,.mv (.c (.str [])),none⟩,⟨.p 3,.mv (.c (.str [])),none⟩,⟨.p 4,.mv (.c (.bool false)),none⟩]) (.seq (.seq (.region [zm 8 0,zm 9 1,z2 10 256 8 9,zw 5 10]) (.seq (.region [zm 11 5,zc 12 .geq 11 0]) (.cond (.l 12) (.seq (.draw [(zm 13 0,[]),(zm 14 5,[0]),(⟨.l 15,.slice .str 1 (.l 13) none (some (.l 14)) none,none⟩,[]),(zm 16 0,[0,1,2]),(zm 17 5,[0,1,2,3]),(zm 18 1,[0,1,2,3,4]),(zL 19 18,[0,1,2,3,4]),(zb 20 .add 17 19,[0,1,2,3]),(⟨.l 21,.slice .str 1 (.l 16) (some (.l 20)) none none,none⟩,[0,1,2]),(zw 2 15,[3,4,5,6,7,8]),(zw 3 21,[]),(⟨.p 4,.mv (.c (.bool true)),none⟩,[])]) (.ret)) (.skip)))) (.seq (.region [zm 22 0,zw 2 22,⟨.p 3,.mv (.c (.str [])),none⟩,⟨.p 4,.mv (.c (.bool false)),none⟩]) (.ret)))
theorem Wa:FT 208=some ⟨23,[0,1,4,5,6,7],[.var (.p 2),.var (.p 3),.var (.p 4)],BX⟩:=by kernel_rfl
def Wb:ak:=.seq (.seq (.region [zm 57 6,zm 58 7,zb 59 .lss 57 58]) (.cond (.l 59) (.skip) (.exit 1))) (.block 2 (.seq (.seq (.region [zm 60 0,zm 61 6,⟨.l 62,.index (.l 60) (.l 61),none⟩,zm 63 4,zb 64 .neq 62 63]) (.cond (.l 64) (.seq (.region [zm 65 0,zm 66 6,zc 67 .add 66 1,zm 68 7,⟨.l 69,.slice .str 1 (.l 65) (some (.l 67)) (some (.l 68)) none,none⟩,zm 70 4,z2 71 282 69 70,zw 9 71]) (.seq (.seq (.region [zm 72 9,zc 73 .lss 72 0]) (.cond (.l 73) (.seq (.region [zi 2 (-1)]) (.ret)) (.skip))) (.region [zm 74 6,zm 75 9,zc 76 .add 75 1,zb 77 .add 74 76,zw 6 77]))) (.skip))) (.seq (.seq (.region [zm 78 0,zm 79 6,zc 80 .add 79 1,⟨.l 81,.index (.l 78) (.l 80),none⟩,zm 82 5,zb 83 .eql 81 82,zn 84 83,zg (zm 85 0) 84 true,zg (zm 86 6) 84 true,zg (zm 87 6) 84 true,zg (zm 88 3) 84 true,zg (zb 89 .add 87 88) 84 true,⟨.l 90,.slice .str 1 (.l 85) (some (.l 86)) (some (.l 89)) none,some ((.l 84),true)⟩,zg (zm 91 1) 84 true,zg (zb 92 .eql 90 91) 84 true,zp 93 84 92]) (.cond (.l 93) (.seq (.region [zm 94 6,zw 2 94]) (.ret)) (.skip))) (.seq (.region [zm 95 6,zc 96 .add 95 1,zw 6 96]) (.seq (.region [zm 97 8,zc 98 .add 97 1,zw 8 98]) (.seq (.bad) (.cond (.l 107) (.seq (.region [zm 108 0,zm 109 6,⟨.l 110,.slice .str 1 (.l 108) (some (.l 109)) none none,none⟩,zm 111 1,z2 112 283 110 111,zw 10 112]) (.seq (.seq (.region [zm 113 10,zc 114 .geq 113 0]) (.cond (.l 114) (.seq (.region [zm 115 10,zm 116 6,zb 117 .add 115 116,zw 2 117]) (.ret)) (.skip))) (.seq (.region [zi 2 (-1)]) (.ret)))) (.seq (.bad) (.cond (.l 132) (.seq (.region [zm 133 0,zm 134 6,⟨.l 135,.slice .str 1 (.l 133) (some (.l 134)) none none,none⟩,zm 136 1,z2 137 285 135 136,zw 11 137]) (.seq (.seq (.region [zm 138 11,zc 139 .lss 138 0]) (.cond (.l 139) (.seq (.region [zi 2 (-1)]) (.ret)) (.skip))) (.seq (.region [zm 140 6,zm 141 11,zb 142 .add 140 141,zw 2 142]) (.ret)))) (.skip))))))))))
def Jr:ak:=.seq (.region [zi 2 0]) (.seq (.region [zm 14 1,zL 15 14,zw 3 15]) (.seq (.block 0 (.seq (.region [zm 17 3,zc 18 .eql 17 0,zn 19 18,zg (zm 20 1) 19 false,zg (zm 21 0) 19 false,zg (zb 22 .eql 20 21) 19 false,zP 23 19 22,zn 16 23]) (.cond (.l 16) (.seq (.region [zi 2 0]) (.ret)) (.seq (.region [zm 25 3,zc 26 .eql 25 1,zn 24 26]) (.cond (.l 24) (.seq (.region [zm 27 0,zm 28 1,⟨.l 29,.index (.l 28) (kI 0),none⟩,z2 30 282 27 29,zw 2 30]) (.ret)) (.seq (.region [zm 32 3,zm 33 0,zL 34 33,zb 35 .geq 32 34,zn 31 35]) (.cond (.l 31) (.seq (.region [zi 2 (-1)]) (.ret)) (.seq (.bad) (.cond (.l 36) (.seq (.region [zm 45 0,zm 46 1,z2 47 283 45 46,zw 2 47]) (.ret)) (.skip)))))))))) (.seq (.region [zm 48 1,⟨.l 49,.index (.l 48) (kI 0),none⟩,zw 4 49]) (.seq (.region [zm 50 1,⟨.l 51,.index (.l 50) (kI 1),none⟩,zw 5 51]) (.seq (.region [zi 6 0]) (.seq (.region [zm 52 0,zL 53 52,zm 54 3,zb 55 .sub 53 54,zc 56 .add 55 1,zw 7 56]) (.seq (.region [zi 8 0]) (.seq (.block 1 (.loop Wb)) (.seq (.region [zi 2 (-1)]) (.ret))))))))))
theorem Wc:FT 256=some ⟨143,[0,1,4,5,6,7,8,9,10,11,12,13],[.var (.p 2)],Jr⟩:=by kernel_rfl
def Js:ak:=.seq (.region [zi 2 0]) (.seq (.region [zm 5 0,zm 6 1,z2 7 312 5 6,zw 2 7]) (.ret))
theorem Wd:FT 282=some ⟨8,[0,1,4],[.var (.p 2)],Js⟩:=by kernel_rfl
def Jt:ak:=.seq (.region [⟨.p 2,.mv (.c (.str [])),none⟩,⟨.p 3,.mv (.c (.bool false)),none⟩]) (.seq (.region [zm 6 0,zm 7 1,z2 8 207 6 7,ze 9 0 8,ze 10 1 8,zw 2 9,zw 3 10]) (.ret))
theorem We:FT 162=some ⟨11,[0,1,4,5],[.var (.p 2),.var (.p 3)],Jt⟩:=by kernel_rfl
def Ju:ak:=.seq (.region [⟨.p 2,.mv (.c (.str [])),none⟩,⟨.p 3,.mv (.c (.bool false)),none⟩]) (.seq (.seq (.region [zm 6 0,zm 7 1,z2 8 255 6 7,zu 9 8]) (.cond (.l 9) (.seq (.region [zm 10 0,zw 2 10,⟨.p 3,.mv (.c (.bool false)),none⟩]) (.ret)) (.skip))) (.seq (.region [zm 11 0,zm 12 1,zL 13 12,⟨.l 14,.slice .str 1 (.l 11) (some (.l 13)) none none,none⟩,zw 2 14,⟨.p 3,.mv (.c (.bool true)),none⟩]) (.ret)))
theorem Wf:FT 207=some ⟨15,[0,1,4,5],[.var (.p 2),.var (.p 3)],Ju⟩:=by kernel_rfl
def Jv:ak:=.seq (.region [⟨.p 1,.mv (.c (.bool false)),none⟩]) (.seq (.region [zm 3 0,⟨.l 4,.bin .neq (.l 3) (.c (.str [])),none⟩,zn 5 4,zg (zm 6 0) 5 true,⟨.l 7,.call (kF 257) [(.l 6),(.c (.str zD9))],some ((.l 5),true)⟩,⟨.l 8,.bin .eql (.l 7) (.c (.str [])),some ((.l 5),true)⟩,zp 9 5 8,zw 1 9]) (.ret))
theorem Wg:FT 209=some ⟨10,[0,2],[.var (.p 1)],Jv⟩:=by kernel_rfl
def Jw:ak:=.seq (.region [⟨.p 2,.mv (.c (.str [])),none⟩]) (.seq (.seq (.region [zm 7 0,⟨.l 8,.bin .eql (.l 7) (.c (.str [])),none⟩,zn 9 8,zg (zm 10 1) 9 false,⟨.l 11,.bin .eql (.l 10) (.c (.str [])),some ((.l 9),false)⟩,zP 12 9 11]) (.cond (.l 12) (.seq (.region [zm 13 0,zw 2 13]) (.ret)) (.skip))) (.seq (.seq (.region [zm 14 1,zL 15 14,zc 16 .eql 15 1,zn 17 16,zg (zm 18 1) 17 true,⟨.l 19,.index (.l 18) (kI 0),some ((.l 17),true)⟩,⟨.l 20,.bin .lss (.l 19) (.c (.int .u8 (128))),some ((.l 17),true)⟩,zp 21 17 20]) (.cond (.l 21) (.seq (.draw [(zm 22 0,[]),(zm 23 1,[0]),(⟨.l 24,.index (.l 23) (kI 0),none⟩,[0]),(z2 25 287 22 24,[]),(zm 26 1,[0,1,2,3]),(⟨.l 27,.index (.l 26) (kI 0),none⟩,[0,1,2,3]),(z2 28 286 25 27,[]),(zw 2 28,[])]) (.ret)) (.skip))) (.seq (.seq (.region [zm 30 1,z1 31 288 30,zn 29 31,ze 32 0 29,ze 33 1 29,⟨.p 3,.alloc 286 wA,none⟩,zs 256 3 32,zw 4 33]) (.seq (.region [zm 34 4]) (.cond (.l 34) (.seq (.region [zm 35 0,⟨.l 36,.call (kF 290) [(.l 35),(.p 3)],none⟩,⟨.l 37,.call (kF 289) [(.l 36),(.p 3)],none⟩,zw 2 37]) (.ret)) (.skip)))) (.seq (.region [zm 38 0,zm 39 1,z2 40 292 38 39,zm 41 1,z2 42 291 40 41,zw 2 42]) (.ret)))))
theorem Wh:FT 257=some ⟨43,[0,1,4,5,6],[.var (.p 2)],Jw⟩:=by kernel_rfl
def Wi:ak:=.seq (.seq (.region [zm 6 3,zm 7 0,zL 8 7,zb 9 .lss 6 8]) (.cond (.l 9) (.skip) (.exit 0))) (.seq (.block 1 (.seq (.region [zm 12 0,zm 13 3,⟨.l 14,.index (.l 12) (.l 13),none⟩,zw 4 14]) (.seq (.seq (.region [zm 15 4,⟨.l 16,.bin .geq (.l 15) (.c (.int .u8 (128))),none⟩]) (.cond (.l 16) (.seq (.region [zt 17 256 1,zs 256 1 17,⟨.p 2,.mv (.c (.bool false)),none⟩]) (.ret)) (.skip))) (.region [zm 18 4,⟨.l 19,.dw (some 256) 1 (.p 1) (.l 18),none⟩,⟨.no,.store 1 (.l 19) (.c (.bool true)),none⟩])))) (.region [zm 10 3,zc 11 .add 10 1,zw 3 11]))
def BY:ak:=.seq (.region [⟨.p 1,.alloc 286 wA,none⟩,⟨.p 2,.mv (.c (.bool false)),none⟩]) (.seq (.seq (.region [zi 3 0]) (.block 0 (.loop Wi))) (.seq (.region [zt 20 256 1,zs 256 1 20,⟨.p 2,.mv (.c (.bool true)),none⟩]) (.ret)))
theorem Wj:FT 288=some ⟨21,[0,2,3,4,5],[.cell 256 true (.p 1),.var (.p 2)],BY⟩:=by kernel_rfl
def sx:ak:=.seq (.seq (.region [zm 5 0,zL 6 5,zc 7 .gtr 6 0]) (.cond (.l 7) (.skip) (.exit 0))) (.block 1 (.seq (.seq (.region [zm 8 1,zm 9 0,⟨.l 10,.index (.l 9) (kI 0),none⟩,z2 11 314 8 10,zu 12 11]) (.cond (.l 12) (.exit 0) (.skip))) (.region [zm 13 0,⟨.l 14,.slice .str 1 (.l 13) (some (kI 1)) none none,none⟩,zw 0 14])))
def Jx:ak:=.seq (.region [⟨.p 2,.mv (.c (.str [])),none⟩]) (.seq (.block 0 (.loop sx)) (.seq (.region [zm 15 0,zw 2 15]) (.ret)))
theorem Wk:FT 289=some ⟨16,[0,1,4],[.var (.p 2)],Jx⟩:=by kernel_rfl
def sy:ak:=.seq (.seq (.region [zm 5 0,zL 6 5,zc 7 .gtr 6 0]) (.cond (.l 7) (.skip) (.exit 0))) (.block 1 (.seq (.seq (.region [zm 8 1,zm 9 0,zm 10 0,zL 11 10,zc 12 .sub 11 1,⟨.l 13,.index (.l 9) (.l 12),none⟩,z2 14 314 8 13,zu 15 14]) (.cond (.l 15) (.exit 0) (.skip))) (.region [zm 16 0,zm 17 0,zL 18 17,zc 19 .sub 18 1,⟨.l 20,.slice .str 1 (.l 16) none (some (.l 19)) none,none⟩,zw 0 20])))
def Jy:ak:=.seq (.region [⟨.p 2,.mv (.c (.str [])),none⟩]) (.seq (.block 0 (.loop sy)) (.seq (.region [zm 21 0,zw 2 21]) (.ret)))
theorem Wl:FT 290=some ⟨22,[0,1,4],[.var (.p 2)],Jy⟩:=by kernel_rfl
def Jz:ak:=.seq (.region [⟨.p 2,.mv (.c (.bool false)),none⟩]) (.seq (.region [zm 5 0,zm 6 1,⟨.l 7,.jg (.l 5),none⟩,⟨.l 8,.dw (some 256) 1 (.l 7) (.l 6),none⟩,zd 9 1 8,zw 2 9]) (.ret))
theorem Wm:FT 314=some ⟨10,[0,1,4],[.var (.p 2)],Jz⟩:=by kernel_rfl
def JA:ak:=.seq (.region [⟨.p 1,.mv (.c (.bool false)),none⟩]) (.seq (.region [zm 3 0,z1 4 209 3,zn 5 4,zg (zm 6 0) 5 true,⟨.l 7,.index (.l 6) (kI 0),some ((.l 5),true)⟩,⟨.l 8,.bin .neq (.l 7) (.c (.int .u8 (48))),some ((.l 5),true)⟩,zg (zn 9 8) 5 true,zg (zm 10 0) 9 false,⟨.l 11,.bin .eql (.l 10) (.c (.str [48])),some ((.l 9),false)⟩,zg (zP 12 9 11) 5 true,zp 13 5 12,zw 1 13]) (.ret))
theorem Wn:FT 164=some ⟨14,[0,2],[.var (.p 1)],JA⟩:=by kernel_rfl
end Go.Ab.Ch1
