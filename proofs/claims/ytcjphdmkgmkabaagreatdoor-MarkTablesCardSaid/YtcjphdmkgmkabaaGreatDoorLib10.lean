/-
  Own work: texts: zeros repeated a few times.
-/
import Derived.Test.YtcjphdmkgmkabaaGreatDoorLib9
import Derived.Test.YtcjphdmkgmkabaaGreatDoorLib8
import Derived.Test.YtcjphdmkgmkabaaGreatDoorLib6
import Derived.Test.YtcjphdmkgmkabaaGreatDoorLib5
import Derived.Test.YtcjphdmkgmkabaaGreatDoorCh1Base
import Derived.Test.YtcjphdmkgmkabaaGreatDoorLib7
set_option maxHeartbeats 8000000
set_option maxRecDepth 20000
namespace Go.Ab.Ch1
open Go.Ab.aW
variable {M:aw} {cap:Option Nat}
theorem acm (hft:M.FT=FT)(k:Nat)(q:∀h,M.ext 244 [.uV 1,.uV k] h=some ⟨.au [.uV 0,.uV k],h,[]⟩):aS M 300 [.uV 1,.uV k] [] ⟨.au [.uV 0,.uV k],[],[]⟩:=by
 refine bC (by rw[hft];exact aaE) (by simp) ?_;unfold LN;simp only[enter];exact gg1
def nH:ah:=[48,48,48,48,48,48,48,48,48,48,48,48,48,48,48,48,48,48,48,48,48,48,48,48,48,48,48,48,48,48,48,48,48,48,48,48,48,48,48,48,48,48,48,48,48,48,48,48,48,48,48,48,48,48,48,48,48,48,48,48,48,48,48,48]
def MZ:ah:=[32,32,32,32,32,32,32,32,32,32,32,32,32,32,32,32,32,32,32,32,32,32,32,32,32,32,32,32,32,32,32,32,32,32,32,32,32,32,32,32,32,32,32,32,32,32,32,32,32,32,32,32,32,32,32,32,32,32,32,32,32,32,32,32,32,32,32,32,32,32,32,32,32,32,32,32,32,32,32,32,32,32,32,32,32,32,32,32,32,32,32,32,32,32,32,32,32,32,32,32,32,32,32,32,32,32,32,32,32,32,32,32,32,32,32,32,32,32,32,32,32,32,32,32,32,32,32,32]
def Na:ah:=[45,45,45,45,45,45,45,45,45,45,45,45,45,45,45,45,45,45,45,45,45,45,45,45,45,45,45,45,45,45,45,45,45,45,45,45,45,45,45,45,45,45,45,45,45,45,45,45,45,45,45,45,45,45,45,45,45,45,45,45,45,45,45,45,45,45,45,45,45,45,45,45,45,45,45,45,45,45,45,45,45,45,45,45,45,45,45,45,45,45,45,45,45,45,45,45,45,45,45,45,45,45,45,45,45,45,45,45,45,45,45,45,45,45,45,45,45,45,45,45,45,45,45,45,45,45,45,45]
theorem acn {k:Nat}(h:k<=64):nH.take k=List.replicate k 48:=by
 have:nH=List.replicate 64 48:=rfl;rw[this,List.take_replicate,Nat.min_eq_left h]
set_option maxRecDepth 100000 in
theorem aco (hft:M.FT=FT)(k:Nat)(hk:k<=64)(q300:∀h,M.ext 300 [.uV 1,.uV k] h=some ⟨.au [.uV 0,.uV k],h,[]⟩)(q212:∀h,M.ext 212 [.str nH,.str [48]] h=some ⟨.bool true,h,[]⟩)(q32:∀h,M.ext 212 [.str MZ,.str [48]] h=some ⟨.bool false,h,[]⟩)(q45:∀h,M.ext 212 [.str Na,.str [48]] h=some ⟨.bool false,h,[]⟩):aS M 264 [.str [48],.iV k] [] ⟨.str (List.replicate k 48),[],[]⟩:=by
 have hn1:([48]:ah).length=1:=rfl;have hz:nH.length=64:=rfl;have e48:(([48]:ah)[(0:Int).toNat]!).toNat=48:=rfl;refine bC (by rw[hft];exact aaC) (by simp) ?_;unfold LJ;simp only[enter];by_cases h0:k=0
 . subst h0;exact gg6
 . by_cases h1:k=1
   . subst h1;exact gg6
   . have hd:nH.take (k:Int).toNat=List.replicate k 48:=acn hk;exact gg5
open Go.Proofs
variable {T:List (Nat×Spec)}
set_option maxRecDepth 1000000 in
theorem acp:nT Tryz.prog 323 .same:=⟨⟨_,rfl,by kernel_rfl,by kernel_rfl,by kernel_rfl,by kernel_rfl⟩⟩
noncomputable def Nb:Spec:=sK [] 324
noncomputable def Nc:Spec:=sK [] 325
theorem acq:aR Tryz.prog gl 324 Nb:=bc bx
theorem acr:aR Tryz.prog gl 325 Nc:=bc bx
noncomputable def Nd:List (Nat×Spec):=[(240,tc),(324,Nb),(325,Nc)]
theorem cIt:LC (aY Tryz.prog FT Nd) where
 ft:=bm
 sH:=fun x h hx=>DK x h hx
 LD:=fun x h hx=>bL (aag bm x hx) rfl rfl rfl h
 Eb:=fun x h=>bL (aah bm x) rfl rfl rfl h
noncomputable def Nf:Spec:=sK [] 304
noncomputable def Ng:Spec:=sK Nd 305
theorem acu:aR Tryz.prog gl 304 Nf:=bc bx
theorem acv:aR Tryz.prog gl 305 Ng:=bc (aL DJ (aL acq (aL acr bx)))
noncomputable def yp:List (Nat×Spec):=[(304,Nf),(305,Ng)]
theorem Nh:cf Tryz.prog gl (bk yp):=aL acu (aL acv bx)
theorem Ni:tq (aY Tryz.prog FT yp) where
 ft:=bm
 LH:=fun _ _=>rfl
 Eg:=fun n h hn=>bL (aar bm n hn) rfl rfl rfl h
 xZ:=fun d h hd=>bL (aam cIt d hd) rfl rfl rfl h
noncomputable def yq:Spec:=sK yp 299
noncomputable def yr:Spec:=sK yp 267
noncomputable def yt:Spec:=sK [(267,yr)] 226
noncomputable def EA:Spec:=sK [(226,yt)] 183
noncomputable def EB:Spec:=sK [(299,yq)] 263
theorem acw:aR Tryz.prog gl 299 yq:=bc Nh
theorem acx:aR Tryz.prog gl 267 yr:=bc Nh
theorem acy:aR Tryz.prog gl 226 yt:=bc (aL acx bx)
theorem acz:aR Tryz.prog gl 183 EA:=bc (aL acy bx)
theorem acA:aR Tryz.prog gl 263 EB:=bc (aL acw bx)
theorem acB:∀z h,(-9223372036854775808<=z/\z<9223372036854775808)->EA [.iV z] h=some ⟨.str (bM z),h,[]⟩:=fun z h hz=>by
 have q267:∀h,yr [.iV z,.iV 10] h=some ⟨.str (bM z),h,[]⟩:=bL (aax Ni z hz) rfl rfl rfl;have q226:∀h,yt [.iV z] h=some ⟨.str (bM z),h,[]⟩:=bL (aay (M:=aY Tryz.prog FT [(267,yr)]) bm z q267) rfl rfl rfl;exact bL (aaz (M:=aY Tryz.prog FT [(226,yt)]) bm z q226) rfl rfl rfl h
theorem acC:∀(u:Nat) h,u<18446744073709551616->EB [.uV u,.iV 10] h=some ⟨.str (aQ u),h,[]⟩:=fun u h hu=>by
 have q299:∀h,yq [.uV u,.iV 10] h=some ⟨.str (aQ u),h,[]⟩:=bL (aaw Ni u hu) rfl rfl rfl;exact bL (aaA (M:=aY Tryz.prog FT [(299,yq)]) bm u q299) rfl rfl rfl h
noncomputable def nh:Spec:=sK [] 255
noncomputable def tD:Spec:=sK [(255,nh)] 212
noncomputable def yu:Spec:=sK [(255,nh)] 258
noncomputable def yw:Spec:=sK [(258,yu)] 213
noncomputable def yx:Spec:=sK [(255,nh)] 207
noncomputable def EC:Spec:=sK [(207,yx)] 162
theorem EE:aR Tryz.prog gl 255 nh:=bc bx
theorem Nj:aR Tryz.prog gl 212 tD:=bc (aL EE bx)
theorem acD:aR Tryz.prog gl 258 yu:=bc (aL EE bx)
theorem acE:aR Tryz.prog gl 213 yw:=bc (aL acD bx)
theorem acF:aR Tryz.prog gl 207 yx:=bc (aL EE bx)
theorem acG:aR Tryz.prog gl 162 EC:=bc (aL acF bx)
theorem EH:∀(s:ah) b h,s.length<1000000->nh [.str s,.str [b]] h=some ⟨.bool (preB b s),h,[]⟩:=fun s b h hl=>bL (abT bm s b hl) rfl rfl rfl h
theorem yy:∀(s:ah) b h,s.length<1000000->tD [.str s,.str [b]] h=some ⟨.bool (preB b s),h,[]⟩:=fun s b h hl=>
 bL (abU (M:=aY Tryz.prog FT [(255,nh)]) bm s b fun h=>EH s b h hl) rfl rfl rfl h
theorem acH:∀(s:ah) b h,s.length<1000000->yw [.str s,.str [b]] h=some ⟨.str (bH b s),h,[]⟩:=fun s b h hl=>by
 have q258:∀h,yu [.str s,.str [b]] h=some ⟨.str (bH b s),h,[]⟩:=bL (abV (M:=aY Tryz.prog FT [(255,nh)]) bm s b hl fun h=>EH s b h hl) rfl rfl rfl;exact bL (abW (M:=aY Tryz.prog FT [(258,yu)]) bm s b q258) rfl rfl rfl h
theorem acI:∀(s:ah) b h,s.length<1000000->EC [.str s,.str [b]] h=some ⟨.au [.str (bH b s),.bool (preB b s)],h,[]⟩:=fun s b h hl=>by
 have q207:∀h,yx [.str s,.str [b]] h=some ⟨.au [.str (bH b s),.bool (preB b s)],h,[]⟩:=bL (abX (M:=aY Tryz.prog FT [(255,nh)]) bm s b hl fun h=>EH s b h hl) rfl rfl rfl;exact bL (abY (M:=aY Tryz.prog FT [(207,yx)]) bm s b q207) rfl rfl rfl h
def Nk:List (Nat×Spec):=[(312,mH .index)]
theorem cIx:tx (aY Tryz.prog FT Nk) where
 ft:=bm
 My:=fun _ _=>rfl
 Mz:=fun _ _=>rfl
 MA:=fun _ _ _=>rfl
noncomputable def yz:Spec:=sK Nk 163
theorem acK:aR Tryz.prog gl 163 yz:=bc (aL (vW Jl) bx)
theorem acL:∀(s:ah) b h,s.length<1000000->yz [.str s,.str [b]] h=some ⟨iK b s,h,[]⟩:=fun s b h hl=>bL (abA (fun _ _=>rfl) cIx s b hl) rfl rfl rfl h
theorem acM:cA ff=ff:=by
 unfold ff;induction List.range 256 with
 | nil=>rfl
 | cons a l ih=>
  rw[List.map_cons,cA,ih];rfl
theorem acN:bh ff=0:=by
 unfold ff;induction List.range 256 with
 | nil=>rfl
 | cons a l ih=>simp only[List.map_cons,bh,ih,AV.top];rfl
noncomputable def yA:Spec:=sK [] 288
noncomputable def yB:Spec:=sK [(288,yA)] 257
noncomputable def yC:Spec:=sK [(257,yB)] 209
noncomputable def EK:Spec:=sK [(209,yC)] 164
noncomputable def yD:Spec:=sK [] 214
theorem acO:aR Tryz.prog gl 288 yA:=bc bx
theorem acP:aR Tryz.prog gl 257 yB:=bc (aL acO bx)
theorem acQ:aR Tryz.prog gl 209 yC:=bc (aL acP bx)
theorem acR:aR Tryz.prog gl 164 EK:=bc (aL acQ bx)
theorem acS:aR Tryz.prog gl 214 yD:=bc bx
theorem acT:∀h,yA [.str nf] h=some ⟨.au [.agg ff,.bool true],h,[]⟩:=bL (abD bm) rfl (by simp[AV.top,bh,acN]) (by simp only[bG,cA,acM])
theorem acU:pc (aY Tryz.prog FT [(288,yA)]) where
 ft:=bm
 MC:=fun _ _=>rfl
 MD:=fun _ _=>rfl
 ME:=fun _ _=>rfl
 yi:=acT
theorem acV:∀(s:ah) h,s.length<1000000->EK [.str s] h=some ⟨.bool (dW s),h,[]⟩:=fun s h hl=>by
 have q257:∀h,yB [.str s,.str nf] h=some ⟨.str (jY (iN s)),h,[]⟩:=bL (abN acU s hl) rfl rfl rfl;have q209:∀h,yC [.str s] h=some ⟨.bool (decide (s≠[]) && s.all bF),h,[]⟩:=bL (acj (M:=aY Tryz.prog FT [(257,yB)]) bm s q257) rfl rfl rfl;exact bL (ack (M:=aY Tryz.prog FT [(209,yC)]) bm s q209) rfl rfl rfl h
theorem acW:∀(s:ah) h,s≠[]->s.length<=18->s.all bF=true->yD [.str s] h=some ⟨.au [.iV (az 0 s),.cS],h,[]⟩:=fun s h h0 hl hd=>bL (abS ⟨bm,fun _ _=>rfl⟩ s h0 hl hd) rfl rfl rfl h
noncomputable def EL:Spec:=sK [(244,mV)] 300
theorem acX:aR Tryz.prog gl 300 EL:=bc (aL DE bx)
theorem acY {k:Nat}(hk:k<=64):∀h,EL [.uV 1,.uV k] h=some ⟨.au [.uV 0,.uV k],h,[]⟩:=
 bL (acm (M:=aY Tryz.prog FT [(244,mV)]) bm k fun h=>by
  have:=DG 1 k h (by decide) (by omega);rw[show (1:Int)*k/18446744073709551616=0 by omega,show (1:Int)*k%18446744073709551616=k by omega]at this;exact this) rfl rfl rfl
noncomputable def Nl:List (Nat×Spec):=[(300,EL),(212,tD)]
noncomputable def EM:Spec:=sK Nl 264
theorem acZ:aR Tryz.prog gl 264 EM:=bc (aL acX (aL Nj bx))
set_option maxRecDepth 1000000 in
theorem ada:∀(k:Nat) h,k<=64->EM [.str [48],.iV k] h=some ⟨.str (List.replicate k 48),h,[]⟩:=fun k h hk=>
 bL (aco (M:=aY Tryz.prog FT Nl) bm k hk (acY hk) (fun h=>yy nH 48 h (by decide)) (fun h=>yy MZ 48 h (by decide)) (fun h=>yy Na 48 h (by decide))) rfl rfl rfl h
variable {N N2:Nat}
theorem aie {t:Nat}{x y:aN}{l:List aT}{pe:List AV}{lo:List (Nat×AV)}{hp:ab}{df wr:List Nat}{k:IntKind}{a b:Int}{Q:aq->Prop}{m:Int}(hx:(St.mk pe lo hp df).ae x=some (.int k a))(hy:(St.mk pe lo hp df).ae y=some (.int k b))(hm:m=a/\b<=a\/m=b/\a<=b)
 (h:WO M l ⟨⟨pe,(t,.int k m)::lo,hp,df⟩,wr⟩ Q):WO M (⟨.l t,.mm true [x,y],none⟩::l) ⟨⟨pe,lo,hp,df⟩,wr⟩ Q:=by
 refine aak (v:=.int k m) ?_ rfl h;simp only[aV,St.cE,hx,hy];have e:(if a<b then b else a)=m:=by split <;> omega
 simp[nC,e]
def cI (s:ah):ah:=(bD 47 (bH 45 s)).1
def dz (s:ah):ah:=(bD 47 (bH 45 s)).2.getD []
def gV (s:ah):Bool:=(bD 47 (bH 45 s)).2.isSome
def kc (s:ah):Bool:=dW (cI s) && !(preB 45 s && decide (cI s=[48])) && (!gV s || (dW (dz s) && decide (dz s≠[48]) && decide (dz s≠[49])))
def fT (a b:Nat):Bool:=!(Nat.gcd a b == 1)
def cw (s:ah):Int:=if kc s=false then 1 else if 600<(cI s).length\/600<(dz s).length then 4 else if gV s=true/\fT (az 0 (cI s)) (az 0 (dz s))=true then 1 else 0
structure EN (M:aw)(N:Nat):Prop extends lT M N where
 Nm:∀(s:ah) h,s.length<1000000->M.ext 162 [.str s,.str [45]] h=some ⟨.au [.str (bH 45 s),.bool (preB 45 s)],h,[]⟩
 EO:∀(s:ah) h,s.length<1000000->M.ext 164 [.str s] h=some ⟨.bool (dW s),h,[]⟩
 sV:∀a b x y,ay a x->ay b y->aj x<wB^N->aj y<wB^N->∃v0,ay v0 (Int.gcd x y:Nat)/\∀h,M.ext 165 [a,b] h=some ⟨v0,h,[]⟩
 jB:∀t (e:Int) h,M.ext 97 [.bool t,.iV e] h=some ⟨.iV (if t then e else 0),h,[]⟩
 jj:∀v h l,ie h v=some l->l.length<1000->M.ext 96 [v] h=some ⟨.iV (dD l),h,[]⟩
theorem tE {s:ah}(h:dW s=true):s≠[]/\s.all bF=true:=by
 simp only[dW,Bool.and_eq_true,decide_eq_true_eq]at h;exact h.1
theorem adb {s:ah}(h:s.all bF=true):preB 45 s=false:=by
 rw[preB,decide_eq_false_iff_not];intro e;cases s with
 | nil=>simp at e
 | cons c t=>
  simp at e;subst e;simp[List.all_cons]at h;exact absurd h.1 (by decide)
theorem lT.Nn (C:lT M N)(s:ah)(hl:s.length<=N)(h:s.all bF=true):∃v0,ay v0 (az 0 s:Nat)/\∀h,M.ext 166 [.str s] h=some ⟨v0,h,[]⟩:=by
 have hp:=adb h;have hc:=jZ hp;obtain⟨v0,h0,q⟩:=C.Ez s hl (by rw[hc];exact h);rw[hp,hc]at h0;exact⟨v0,h0,q⟩
theorem tF (b:UInt8)(s:ah):(bD b s).1.length<=s.length:=by
 cases h:(bD b s).2 with
 | none=>rw[(nd h).1];exact Nat.le_refl _
 | some y=>have:=tz h;omega
theorem EP (b:UInt8)(s:ah):((bD b s).2.getD []).length<=s.length:=by
 cases h:(bD b s).2 with
 | none=>exact Nat.zero_le _
 | some y=>have:=tz h;simp;omega
def qQ:an:=
 zR [zm 46 7,
          zu 47 46,
          ⟨(.l 48),.call (kF 97) [(.l 47),(kI 1)],none⟩,
          zm 49 4,
          zL 50 49,
          zm 51 5,
          zL 52 51,
          ⟨(.l 53),.mm true [(.l 50),(.l 52)],none⟩,
          zc 54 .gtr 53 600,
          ⟨(.l 55),.call (kF 97) [(.l 54),(kI 4)],none⟩,
          ⟨(.l 56),.dQ 25 2 1 [.iV (0)] [(0,1,(.l 48)),(1,1,(.l 55))],none⟩,
          z1 57 96 56,
          zw 8 57]
        (
         zR [zm 58 8,
           zc 59 .neq 58 0,
           zn 60 59,
           zg (zm 61 6) 60 false,
           zg (zu 62 61) 60 false,
           zP 63 60 62]
         (
          .cond (.l 63)
          (
           zR [zm 64 8,
             zw 1 64]
           (.ret))
          (.skip)))
def qR:an:=
 zR [zm 65 4,
          z1 66 166 65,
          zm 67 5,
          z1 68 166 67,
          z2 69 165 66 68,
          ⟨(.p 9),.alloc 131 [.iV (0),.aa],none⟩,
          zs 2 9 69]
        (
         .seq (.draw [(zt 70 2 9,[]),
           (⟨(.l 71),.call (kF 168) [(kI 1)],none⟩,[0]),
           (z2 72 167 70 71,[]),
           (zc 73 .neq 72 0,[]),
           (⟨(.l 74),.call (kF 97) [(.l 73),(kI 1)],none⟩,[]),
           (zw 1 74,[])])
         (.ret))
def ET (res:List fa)(r:Int)(e:Ex)(s:aq):Prop:=(e = .normal\/e = .ret)/\s.s.bO=[]/\∃vs,cX s.s res=some vs/\aU vs = .iV r/\(if (AV.iV r).top<=0 then [] else s.s.hp)=[]
theorem iU {res:List fa}{r r':Int}{e:Ex}{s:aq}{vs:List AV}(he:e = .normal\/e = .ret)(hd:s.s.bO=[])(hv:cX s.s res=some vs)(ht:aU vs = .iV r')(hr:r'=r):ET res r e s:=by
 subst hr;exact⟨he,hd,vs,hv,ht,rfl⟩
theorem jC (C:EN M N)(hN:600<=N)(F B:Bool)(top bot:ah)(hl:top.length<1000000/\bot.length<1000000)(hd:F=true->top.all bF=true/\(B=true->bot.all bF=true))(a0 a1 a2 a3 a8 a9:AV)(lo:List (Nat×AV))(wr:List Nat) :
 W M (.seq qQ qR) ⟨⟨[a0,a1,a2,a3,.str top,.str bot,.bool B,.bool F,a8,a9],lo,[],[]⟩,wr⟩ (ET [.var (.p 1)] (if F=false then 1 else if 600<top.length\/600<bot.length then 4 else if B=true/\fT (az 0 top) (az 0 bot)=true then 1 else 0)):=by
 have t1:∀h,M.ext 97 [.bool true,.iV 1] h=some ⟨.iV 1,h,[]⟩:=fun h=>C.jB true 1 h
 have f1:∀h,M.ext 97 [.bool false,.iV 1] h=some ⟨.iV 0,h,[]⟩:=fun h=>C.jB false 1 h
 have t4:∀h,M.ext 97 [.bool true,.iV 4] h=some ⟨.iV 4,h,[]⟩:=fun h=>C.jB true 4 h
 have f4:∀h,M.ext 97 [.bool false,.iV 4] h=some ⟨.iV 0,h,[]⟩:=fun h=>C.jB false 4 h
 have g14:∀v h,ie h v=some [1,4]->M.ext 96 [v] h=some ⟨.iV 1,h,[]⟩:=fun v h e=>C.jj v h _ e (by decide)
 have g10:∀v h,ie h v=some [1,0]->M.ext 96 [v] h=some ⟨.iV 1,h,[]⟩:=fun v h e=>C.jj v h _ e (by decide)
 have g04:∀v h,ie h v=some [0,4]->M.ext 96 [v] h=some ⟨.iV 4,h,[]⟩:=fun v h e=>C.jj v h _ e (by decide)
 have g00:∀v h,ie h v=some [0,0]->M.ext 96 [v] h=some ⟨.iV 0,h,[]⟩:=fun v h e=>C.jj v h _ e (by decide)
 obtain⟨m,hm⟩:∃m:Int,m=top.length/\(bot.length:Int)<=top.length\/m=bot.length/\(top.length:Int)<=bot.length:=by
  by_cases h:bot.length<=top.length
  . exact⟨_,.inl ⟨rfl,by omega⟩⟩
  . exact⟨_,.inr ⟨rfl,by omega⟩⟩
 cases F with
 | false=>
  rw[if_pos rfl];unfold qQ qR;repeat' first|(apply aie (m:=m);rfl;rfl;exact hm)|apply ads|apply dw|apply adt|apply adP|apply afP|apply mf|(apply aff;rfl)|(apply aiL;rfl)|(apply acs;rfl;rfl)|(apply adW;rfl;rfl)|(apply agp;rfl;rfl)|(apply aal;rfl;rfl;first|exact t1 _|exact f1 _|exact t4 _|exact f4 _)|(apply aal;rfl;rfl;first|exact g14 _ _ rfl|exact g10 _ _ rfl)|(apply ade;rfl;rfl;rfl)|(apply aak;rfl;rfl)|(apply adU;rfl;rfl)|(intro _;omega)|intro _
  all_goals try omega
  all_goals exact iU (.inr rfl) rfl rfl rfl rfl
 | true=>
  rw[if_neg (by decide)];by_cases hb:600<top.length\/600<bot.length
  . rw[if_pos hb];unfold qQ qR;repeat' first|(apply aie (m:=m);rfl;rfl;exact hm)|apply ads|apply dw|apply adt|apply adP|apply afP|apply mf|(apply aff;rfl)|(apply aiL;rfl)|(apply acs;rfl;rfl)|(apply adW;rfl;rfl)|(apply agp;rfl;rfl)|(apply aal;rfl;rfl;first|exact t1 _|exact f1 _|exact t4 _|exact f4 _)|(apply aal;rfl;rfl;first|exact g04 _ _ rfl|exact g00 _ _ rfl)|(apply ade;rfl;rfl;rfl)|(apply aak;rfl;rfl)|(apply adU;rfl;rfl)|(intro _;omega)|intro _
    all_goals try omega
    all_goals exact iU (.inr rfl) rfl rfl rfl rfl
  . rw[if_neg hb];cases B with
    | false=>
     rw[if_neg (by simp)];unfold qQ qR;repeat' first|(apply aie (m:=m);rfl;rfl;exact hm)|apply ads|apply dw|apply adt|apply adP|apply afP|apply mf|(apply aff;rfl)|(apply ahb;rfl)|(apply acs;rfl;rfl)|(apply adW;rfl;rfl)|(apply ago;rfl;rfl)|(apply aal;rfl;rfl;first|exact t1 _|exact f1 _|exact t4 _|exact f4 _)|(apply aal;rfl;rfl;first|exact g04 _ _ rfl|exact g00 _ _ rfl)|(apply ade;rfl;rfl;rfl)|(apply aak;rfl;rfl)|(apply adU;rfl;rfl)|(intro _;omega)|intro _
     all_goals try omega
     all_goals exact iU (.inr rfl) rfl rfl rfl rfl
    | true=>
     obtain⟨hta,hba⟩:=hd rfl;have hba:=hba rfl;obtain⟨va,ka,qa⟩:=C.Nn top (by omega) hta;obtain⟨vb,kb,qb⟩:=C.Nn bot (by omega) hba;have la:=pd (N:=N) hta (by omega);have lb:=pd (N:=N) hba (by omega);obtain⟨vg,kg,qg⟩:=C.sV va vb _ _ ka kb la lb;obtain⟨g,hg⟩:∃g,g=Nat.gcd (az 0 top) (az 0 bot):=⟨_,rfl⟩;have kg:ay vg (g:Int):=by rw[hg];exact kg
     have lg:aj (g:Int)<wB^N:=by
      rw[ck (by omega)]at la lb ⊢;rw[hg];rcases Nat.eq_zero_or_pos (az 0 top) with h0|h0
      . rw[h0,Nat.gcd_zero_left];exact lb
      . have:=Nat.gcd_le_left (az 0 bot) h0;omega
     have q168:=C.oH 1;have q167:=C.Dy _ (.agg [.iV 1,.aa]) _ 1 kg (.small (by decide)) lg (pd (s:=[49]) (by decide) (by
                                                                                                                             have:([49]:ah).length=1:=rfl;omega))
     obtain⟨sg,wg,rfl,og,_⟩:=kg.shape;by_cases h1:g=1
     . have hc:fT (az 0 top) (az 0 bot)=false:=by rw[fT,←hg,h1];rfl
       rw[if_neg (by rw[hc];simp)];subst h1;rw[show bg (((1:Nat):Int)-1)=0 by rfl]at q167;unfold qQ qR;repeat' first|(apply aie (m:=m);rfl;rfl;exact hm)|(apply aal;rfl;rfl;first|exact q168 _|exact q167 _|exact t1 _|exact f1 _)|(apply ahy;rfl;rfl;(first|(simp only[nca];rfl)|rfl);first|exact q168 _|exact q167 _|exact t1 _|exact f1 _)|(apply adX;rfl;rfl;rfl;exact⟨rfl,Nat.le_refl _,by simp[fO,og]⟩;rfl)|apply ads|apply dw|apply adt|apply adP|apply afP|apply afX|apply agJ|apply agV|(apply agW;rfl)|(apply ahC;rfl;rfl;(first|(simp only[nca];rfl)|rfl))|(apply agf;rfl)|(apply ahb;rfl)|(apply acs;rfl;rfl)|(apply adW;rfl;rfl)|(apply ago;rfl;rfl)|(apply aal;rfl;rfl;first|exact t1 _|exact f1 _|exact t4 _|exact f4 _|exact qa _|exact qb _|exact qg _)|(apply aal;rfl;rfl;first|exact g04 _ _ rfl|exact g00 _ _ rfl)|(apply ade;rfl;rfl;rfl)|(apply agt;rfl;rfl;rfl)|(apply aak;rfl;rfl)|(apply adU;rfl;rfl)|(intro _;omega)|intro _
       all_goals try omega
       all_goals exact iU (.inr rfl) rfl rfl rfl rfl
     . have hc:fT (az 0 top) (az 0 bot)=true:=by rw[fT,←hg];simp[h1]
       rw[if_pos ⟨rfl,hc⟩];obtain⟨z,hz⟩:∃z,z=bg ((g:Int)-1):=⟨_,rfl⟩;have z0:z≠0:=by rw[hz];unfold bg;split <;> (first|omega|(split <;> omega))
       rw[←hz]at q167;unfold qQ qR;repeat' first|(apply aie (m:=m);rfl;rfl;exact hm)|(apply aal;rfl;rfl;first|exact q168 _|exact q167 _|exact t1 _|exact f1 _)|(apply ahy;rfl;rfl;(first|(simp only[nca];rfl)|rfl);first|exact q168 _|exact q167 _|exact t1 _|exact f1 _)|(apply adX;rfl;rfl;rfl;exact⟨rfl,Nat.le_refl _,by simp[fO,og]⟩;rfl)|apply ads|apply dw|apply adt|apply adP|apply afP|apply afX|apply agJ|apply agV|(apply agW;rfl)|(apply ahC;rfl;rfl;(first|(simp only[nca];rfl)|rfl))|(apply agf;rfl)|(apply ahb;rfl)|(apply acs;rfl;rfl)|(apply adW;rfl;rfl)|(apply ago;rfl;rfl)|(apply aal;rfl;rfl;first|exact t1 _|exact f1 _|exact t4 _|exact f4 _|exact qa _|exact qb _|exact qg _)|(apply aal;rfl;rfl;first|exact g04 _ _ rfl|exact g00 _ _ rfl)|(apply ade;rfl;rfl;rfl)|(apply agt;rfl;rfl;rfl)|(apply aak;rfl;rfl)|(apply adU;rfl;rfl)|(intro _;omega)|intro _
       all_goals try omega
       all_goals exact iU (.inr rfl) rfl rfl rfl rfl
theorem w84 (C:EN M N)(hN:600<=N)(s:ah)(hl:s.length<1000000):aS M 84 [.str s] [] ⟨.iV (cw s),[],[]⟩:=by
 have hcl:=qP 45 s;have htl:(cI s).length<=s.length:=Nat.le_trans (tF 47 _) hcl;have hbl:(dz s).length<=s.length:=Nat.le_trans (EP 47 _) hcl;have q162:=fun h=>C.Nm s h hl
 have q163:=fun h=>C.Ey (bH 45 s) h (by omega)
 have ecut:iK 47 (bH 45 s) = .au [.str (cI s),.str (dz s),.bool (gV s)]:=rfl;rw[ecut]at q163;have q164a:=fun h=>C.EO (cI s) h (by omega)
 have q164b:=fun h=>C.EO (dz s) h (by omega)
 have hform:kc s=(dW (cI s) && !(preB 45 s && decide (cI s=[48])) && (!gV s || (dW (dz s) && decide (dz s≠[48]) && decide (dz s≠[49])))):=rfl;have hchk:cw s=if kc s=false then 1 else if 600<(cI s).length\/600<(dz s).length then 4 else if gV s=true/\fT (az 0 (cI s)) (az 0 (dz s))=true then 1 else 0:=rfl
 have dA:=fun h=>(tE (s:=cI s) h).2
 have dC:=fun h=>(tE (s:=dz s) h).2
 rw[hchk];clear hchk ecut;refine bC (by rw[C.ft];exact acg) (by simp) ?_;generalize cI s=top at *
 generalize dz s=bot at *
 generalize kc s=F at *
 generalize gV s=B at *
 generalize preB 45 s=P at *
 have ll:top.length<1000000/\bot.length<1000000:=⟨by omega,by omega⟩;unfold MW;simp only[enter];cases hA:dW top with
 | false=>
  rw[hA]at q164a hform;simp only[Bool.false_and]at hform;subst hform;cases B;all_goals
  . repeat' first|(exact jC C hN _ _ top bot ll (fun h=>by cases h) _ _ _ _ _ _ _ _)|apply ads|apply dw|apply adt|apply adP|apply afX|(apply aff;rfl)|(apply agf;rfl)|(apply agL;rfl)|(apply ajg;rfl)|(apply ago;rfl;rfl)|(apply aal;rfl;rfl;first|exact q162 _|exact q163 _|exact q164a _)|(apply aak;rfl;rfl)|(apply adU;rfl;rfl)
 | true=>
  rw[hA]at q164a hform;simp only[Bool.true_and]at hform;have dA:=dA hA;by_cases hz:P=true/\top=[48]
  . obtain⟨rfl,hz⟩:=hz;rw[decide_eq_true hz]at hform;simp only[Bool.and_self,Bool.not_true,Bool.false_and]at hform;subst hform;cases B;all_goals
    . repeat' first|(exact jC C hN _ _ top bot ll (fun h=>by cases h) _ _ _ _ _ _ _ _)|(apply aeX;rfl;rfl;all_goals first|(intro h;exact absurd hz h)|intro _)|apply ads|apply dw|apply adt|apply adP|apply afX|(apply aff;rfl)|(apply agf;rfl)|(apply agG;rfl)|(apply agL;rfl)|(apply agp;rfl;rfl)|(apply ago;rfl;rfl)|(apply aal;rfl;rfl;first|exact q162 _|exact q163 _|exact q164a _)|(apply aak;rfl;rfl)|(apply adU;rfl;rfl)
  . have hpz:(P && decide (top=[48]))=false:=by
     cases P with
     | false=>rfl
     | true=>rw[decide_eq_false (fun e=>hz ⟨rfl,e⟩)];rfl
    rw[hpz]at hform;simp only[Bool.not_false,Bool.true_and]at hform;cases B with
    | false=>
     simp only[Bool.not_false,Bool.true_or]at hform;subst hform;cases P with
     | false=>
      repeat' first|(exact jC C hN _ _ top bot ll (fun _=>⟨dA,fun h=>by cases h⟩) _ _ _ _ _ _ _ _)|apply ads|apply dw|apply adt|apply adP|apply afX|(apply agf;rfl)|(apply agG;rfl)|(apply agL;rfl)|(apply agp;rfl;rfl)|(apply ago;rfl;rfl)|(apply aal;rfl;rfl;first|exact q162 _|exact q163 _|exact q164a _)|(apply aak;rfl;rfl)|(apply adU;rfl;rfl)
     | true=>
      have hz:¬top=[48]:=fun e=>hz ⟨rfl,e⟩
      repeat' first|(exact jC C hN _ _ top bot ll (fun _=>⟨dA,fun h=>by cases h⟩) _ _ _ _ _ _ _ _)|(apply aeX;rfl;rfl;all_goals first|(intro h;exact absurd h hz)|intro _)|apply ads|apply dw|apply adt|apply adP|apply afX|(apply agf;rfl)|(apply agG;rfl)|(apply agp;rfl;rfl)|(apply aal;rfl;rfl;first|exact q162 _|exact q163 _|exact q164a _)|(apply aak;rfl;rfl)|(apply adU;rfl;rfl)
    | true=>
     simp only[Bool.not_true,Bool.false_or]at hform;cases hC:dW bot with
     | false=>
      rw[hC]at q164b hform;simp only[Bool.false_and]at hform;subst hform;cases P with
      | false=>
       repeat' first|(exact jC C hN _ _ top bot ll (fun h=>by cases h) _ _ _ _ _ _ _ _)|apply ads|apply dw|apply adt|apply adP|(apply aff;rfl)|(apply agG;rfl)|(apply agL;rfl)|(apply agp;rfl;rfl)|(apply ago;rfl;rfl)|(apply aal;rfl;rfl;first|exact q162 _|exact q163 _|exact q164a _|exact q164b _)|(apply aak;rfl;rfl)|(apply adU;rfl;rfl)
      | true=>
       have hz:¬top=[48]:=fun e=>hz ⟨rfl,e⟩
       repeat' first|(exact jC C hN _ _ top bot ll (fun h=>by cases h) _ _ _ _ _ _ _ _)|(apply aeX;rfl;rfl;all_goals first|(intro h;exact absurd h hz)|intro _)|apply ads|apply dw|apply adt|apply adP|(apply aff;rfl)|(apply agG;rfl)|(apply agL;rfl)|(apply agp;rfl;rfl)|(apply ago;rfl;rfl)|(apply aal;rfl;rfl;first|exact q162 _|exact q163 _|exact q164a _|exact q164b _)|(apply aak;rfl;rfl)|(apply adU;rfl;rfl)
     | true=>
      rw[hC]at q164b hform;simp only[Bool.true_and]at hform;have dC:=dC hC;by_cases h48:bot=[48]
      . rw[decide_eq_false (show ¬bot≠[48] from fun h=>h h48)]at hform;simp only[Bool.false_and]at hform;subst hform;cases P with
        | false=>
         repeat' first|(exact jC C hN _ _ top bot ll (fun h=>by cases h) _ _ _ _ _ _ _ _)|(apply ahz;rfl;rfl;all_goals first|(intro h;exact absurd h48 h)|intro _)|apply ads|apply dw|apply adt|apply adP|(apply aff;rfl)|(apply agG;rfl)|(apply agL;rfl)|(apply agp;rfl;rfl)|(apply ago;rfl;rfl)|(apply aal;rfl;rfl;first|exact q162 _|exact q163 _|exact q164a _|exact q164b _)|(apply aak;rfl;rfl)|(apply adU;rfl;rfl)
        | true=>
         have hz:¬top=[48]:=fun e=>hz ⟨rfl,e⟩
         repeat' first|(exact jC C hN _ _ top bot ll (fun h=>by cases h) _ _ _ _ _ _ _ _)|(apply aeX;rfl;rfl;all_goals first|(intro h;exact absurd h hz)|intro _)|(apply ahz;rfl;rfl;all_goals first|(intro h;exact absurd h48 h)|intro _)|apply ads|apply dw|apply adt|apply adP|(apply aff;rfl)|(apply agG;rfl)|(apply agL;rfl)|(apply agp;rfl;rfl)|(apply ago;rfl;rfl)|(apply aal;rfl;rfl;first|exact q162 _|exact q163 _|exact q164a _|exact q164b _)|(apply aak;rfl;rfl)|(apply adU;rfl;rfl)
      . rw[decide_eq_true (show bot≠[48] from h48)]at hform;simp only[Bool.true_and]at hform;by_cases h49:bot=[49]
        . rw[decide_eq_false (show ¬bot≠[49] from fun h=>h h49)]at hform;subst hform;cases P with
          | false=>
           repeat' first|(exact jC C hN _ _ top bot ll (fun h=>by cases h) _ _ _ _ _ _ _ _)|(apply ahz;rfl;rfl;all_goals first|(intro h;exact absurd h h48)|(intro h;exact absurd h49 h)|intro _)|apply ads|apply dw|apply adt|apply adP|(apply aff;rfl)|(apply agG;rfl)|(apply agL;rfl)|(apply agp;rfl;rfl)|(apply ago;rfl;rfl)|(apply aal;rfl;rfl;first|exact q162 _|exact q163 _|exact q164a _|exact q164b _)|(apply aak;rfl;rfl)|(apply adU;rfl;rfl)
          | true=>
           have hz:¬top=[48]:=fun e=>hz ⟨rfl,e⟩
           repeat' first|(exact jC C hN _ _ top bot ll (fun h=>by cases h) _ _ _ _ _ _ _ _)|(apply aeX;rfl;rfl;all_goals first|(intro h;exact absurd h hz)|intro _)|(apply ahz;rfl;rfl;all_goals first|(intro h;exact absurd h h48)|(intro h;exact absurd h49 h)|intro _)|apply ads|apply dw|apply adt|apply adP|(apply aff;rfl)|(apply agG;rfl)|(apply agp;rfl;rfl)|(apply aal;rfl;rfl;first|exact q162 _|exact q163 _|exact q164a _|exact q164b _)|(apply aak;rfl;rfl)|(apply adU;rfl;rfl)
        . rw[decide_eq_true (show bot≠[49] from h49)]at hform;subst hform;cases P with
          | false=>
           repeat' first|(exact jC C hN _ _ top bot ll (fun _=>⟨dA,fun _=>dC⟩) _ _ _ _ _ _ _ _)|(apply ahz;rfl;rfl;all_goals first|(intro h;exact absurd h h48)|(intro h;exact absurd h h49)|intro _)|apply ads|apply dw|apply adt|apply adP|(apply aff;rfl)|(apply agG;rfl)|(apply agL;rfl)|(apply agp;rfl;rfl)|(apply ago;rfl;rfl)|(apply aal;rfl;rfl;first|exact q162 _|exact q163 _|exact q164a _|exact q164b _)|(apply aak;rfl;rfl)|(apply adU;rfl;rfl)
          | true=>
           have hz:¬top=[48]:=fun e=>hz ⟨rfl,e⟩
           repeat' first|(exact jC C hN _ _ top bot ll (fun _=>⟨dA,fun _=>dC⟩) _ _ _ _ _ _ _ _)|(apply aeX;rfl;rfl;all_goals first|(intro h;exact absurd h hz)|intro _)|(apply ahz;rfl;rfl;all_goals first|(intro h;exact absurd h h48)|(intro h;exact absurd h h49)|intro _)|apply ads|apply dw|apply adt|apply adP|(apply aff;rfl)|(apply agG;rfl)|(apply agp;rfl;rfl)|(apply aal;rfl;rfl;first|exact q162 _|exact q163 _|exact q164a _|exact q164b _)|(apply aak;rfl;rfl)|(apply adU;rfl;rfl)
theorem uA {h:ab}{b:Nat}{a c:AV}{e:TypeId}{cp:Option Nat}(ha:qf a=true)(hc:qf c=true)(hb:h.at b=some (.cells [a,c] e)):cO h (.sl b 0 2 1 cp) (.vs [a,c] 2 none):=
 .sl (m:=[a,c]) hb rfl rfl fun i x y hx hy=>by
  match i,hx,hy with
  | 0,hx,hy=>cases hx;cases hy;exact .atom ha
  | 1,hx,hy=>cases hx;cases hy;exact .atom hc
theorem adf (hft:M.FT=FT)(a b:ah)(ea eb:Int)(q84a:∀h,M.ext 84 [.str a] h=some ⟨.iV ea,h,[]⟩)(q84b:∀h,M.ext 84 [.str b] h=some ⟨.iV eb,h,[]⟩):aS M 101 [.vs [.str a,.str b] 2 cap] [] ⟨.iV (dD [ea,eb]),[],[]⟩:=by
 refine bC (by rw[hft];exact ach) (by simp) ?_;unfold MX;simp only[enter];by_cases ha:ea=0
 . rw[show dD [ea,eb]=dD [eb] by simp[dD,ha]];by_cases hb:eb=0
   . rw[show dD [eb]=0 by simp[dD,hb]];repeat' first|refine gc ?_|fail
     refine W.loop ?_;unfold yn;refine gg12 ?_;refine fQ (W.loop ?_);refine gg12 ?_;refine fQ (W.loop ?_);exact gg0
   . rw[show dD [eb]=eb by simp[dD,hb]];repeat' first|refine gc ?_|fail
     refine W.loop ?_;unfold yn;refine gg12 ?_;refine fQ (W.loop ?_);exact gg2
 . rw[show dD [ea,eb]=ea by simp[dD,ha]];repeat' first|refine gc ?_|fail
   refine W.loop ?_;unfold yn;exact gg2
theorem adg (hft:M.FT=FT){v:AV}{q:Rat}(hv:aZ v q)(q175:∀h,M.ext 175 [v] h=some ⟨.bool false,h,[]⟩)(q176:∀h,M.ext 176 [v] h=some ⟨.str (ao q),h,[]⟩):aS M 105 [v] [] ⟨.au [.str (ao q),.iV 0],[],[]⟩:=by
 obtain⟨s1,w1,s2,w2,rfl,h1,h2⟩:=hv;refine bC (by rw[hft];exact aci) (by simp) ?_;unfold MY;simp only[enter];exact gg1
def Dq (k:Nat)(q:Rat):Prop:=aj q.num<10^k/\(q.den:Int)<10^k
theorem pf (k:Nat):(0:Int)<10^k:=Int.pow_pos (by decide)
theorem pg {m n:Nat}(h:m<=n):(10:Int)^m<=10^n:=fR (by decide) h
theorem Dq.mono {m n:Nat}{q:Rat}(h:Dq m q)(hl:m<=n):Dq n q:=⟨Int.lt_of_lt_of_le h.1 (pg hl),Int.lt_of_lt_of_le h.2 (pg hl)⟩
theorem No {n d:Int}(h:0<d):∃c:Int,0<c/\n=c*(Rat.divInt n d).num/\d=c*((Rat.divInt n d).den:Int):=by
 obtain⟨k1,k2,h1,h2,h3,h4⟩:=xe (n:=n) h;refine⟨(Int.gcd n d:Nat),?_,by rw[h3];exact h1,by rw[h4];exact h2⟩;have:=Int.gcd_pos_of_ne_zero_right n (show d≠0 by omega);omega
theorem adh {c x:Int}(hc:0<c):aj x<=aj (c*x):=by
 rw[sW,ck (Int.le_of_lt hc)];have:=Int.mul_le_mul_of_nonneg_right (show 1<=c by omega) (iD (x:=x));omega
theorem Dq.divInt {k:Nat}{n d:Int}(hd:0<d)(h1:aj n<10^k)(h2:d<10^k):Dq k (Rat.divInt n d):=by
 obtain⟨c,hc,e1,e2⟩:=No (n:=n) hd;refine⟨Int.lt_of_le_of_lt ?_ h1,Int.lt_of_le_of_lt ?_ h2⟩
 . have:=adh (x:=(Rat.divInt n d).num) hc;rw[←e1]at this;exact this
 . have h0:(0:Int)<=((Rat.divInt n d).den:Int):=by omega
   have:=Int.mul_le_mul_of_nonneg_right (show 1<=c by omega) h0;rw[←e2]at this;omega
theorem kd {x y:Int}{m n:Nat}(hx:aj x<10^m)(hy:aj y<10^n):aj (x*y)<10^(m+n):=by
 rw[sW,Int.pow_add];have h1:=Int.mul_le_mul_of_nonneg_left (Int.le_of_lt hy) (iD (x:=x));have h2:=Int.mul_lt_mul_of_pos_right hx (pf n);omega
theorem Np {x y:Int}:aj (x+y)<=aj x+aj y:=by unfold aj;split <;> split <;> split <;> omega
theorem Dq.add {m n:Nat}{p q:Rat}(hp:Dq m p)(hq:Dq n q):Dq (m+n+1) (p+q):=by
 rw[qG];have dp:=den_pos (q:=p);have dq:=den_pos (q:=q);have a1:=kd hp.1 (show aj (q.den:Int)<10^n by rw[ck (by omega)];exact hq.2);have a2:=kd hq.1 (show aj (p.den:Int)<10^m by rw[ck (by omega)];exact hp.2);have a3:=kd (show aj (p.den:Int)<10^m by rw[ck (by omega)];exact hp.2) (show aj (q.den:Int)<10^n by rw[ck (by omega)];exact hq.2);rw[Nat.add_comm n m]at a2;have a4:=Np (x:=p.num*q.den) (y:=q.num*p.den);have e:(10:Int)^(m+n+1)=10^(m+n)*10:=Int.pow_succ _ _;have hp0:=pf (m+n);have hd:=Int.mul_pos dp dq;rw[ck (Int.le_of_lt hd)]at a3;exact .divInt hd (by omega) (by omega)
theorem EV (p q:Rat):p*q=Rat.divInt (p.num*q.num) (p.den*q.den):=by
 have e:=Rat.divInt_mul_divInt p.num q.num (d₁:=p.den) (d₂:=q.den);rw[Rat.num_divInt_den,Rat.num_divInt_den]at e;exact e
theorem Dq.mul {m n:Nat}{p q:Rat}(hp:Dq m p)(hq:Dq n q):Dq (m+n) (p*q):=by
 rw[EV];have dp:=den_pos (q:=p);have dq:=den_pos (q:=q);have a1:=kd hp.1 hq.1;have a3:=kd (show aj (p.den:Int)<10^m by rw[ck (by omega)];exact hp.2) (show aj (q.den:Int)<10^n by rw[ck (by omega)];exact hq.2);have hd:=Int.mul_pos dp dq;rw[ck (Int.le_of_lt hd)]at a3;exact .divInt hd a1 a3
theorem Dq.neg {m:Nat}{p:Rat}(hp:Dq m p):Dq m (-p):=by
 refine⟨?_,?_⟩
 . rw[Rat.neg_num,jh];exact hp.1
 . rw[Rat.neg_den];exact hp.2
theorem Dq.sub {m n:Nat}{p q:Rat}(hp:Dq m p)(hq:Dq n q):Dq (m+n+1) (p-q):=by
 rw[Rat.sub_eq_add_neg];exact hp.add hq.neg
theorem inv_divInt {q:Rat}:q⁻¹=Rat.divInt q.den q.num:=by
 rw[Rat.inv_def]
theorem Dq.inv {m:Nat}{q:Rat}(hq:Dq m q)(h0:q≠0):Dq m q⁻¹:=by
 have hn:q.num≠0:=fun e=>h0 (Rat.num_eq_zero.1 e)
 have dq:=den_pos (q:=q);rw[inv_divInt];by_cases hs:0<q.num
 . have a:=hq.1;rw[ck (by omega)]at a;exact .divInt hs (by rw[ck (by omega)];exact hq.2) a
 . rw[←Rat.neg_divInt_neg];have a:=hq.1;have e:aj q.num = -q.num:=if_pos (by omega);rw[e]at a;exact .divInt (by omega) (by rw[jh,ck (by omega)];exact hq.2) a
def cZ (p q:Rat):Int:=bg (p.num*q.den-q.num*p.den)
theorem adi {c x:Int}(h:0<c):bg (c*x)=bg x:=by
 unfold bg;by_cases h1:x<0
 . have:=Int.mul_neg_of_pos_of_neg h h1;rw[if_pos this,if_pos h1]
 . by_cases h2:0<x
   . have:=Int.mul_pos h h2;rw[if_neg (by omega),if_pos this,if_neg h1,if_pos h2]
   . have:x=0:=by omega
     subst this;rw[Int.mul_zero]
theorem adj {n d:Int}(h:0<d):bg (Rat.divInt n d).num=bg n:=by
 obtain⟨c,hc,e1,_⟩:=No (n:=n) h;rw[←adi hc,←e1]
theorem adk (p q:Rat):p-q=Rat.divInt (p.num*q.den-q.num*p.den) (p.den*q.den):=by
 rw[Rat.sub_eq_add_neg,qG,Rat.neg_num,Rat.neg_den,Int.neg_mul,Int.sub_eq_add_neg]
theorem EW (p:Rat):cZ p 0=bg p.num:=by
 unfold cZ;congr 1;show p.num*1-0*_=_;rw[Int.mul_one,Int.zero_mul,Int.sub_zero]
theorem EX (p q:Rat):cZ (p-q) 0=cZ p q:=by
 rw[EW,adk,adj (Int.mul_pos den_pos den_pos)];rfl
theorem tG {z:Int}{k:Nat}(hk:0<k)(h:aj z<10^k):(aQ (aj z).toNat).length<=k:=by
 refine oT ?_ hk;have h0:=iD (x:=z);have e:((10^k:Nat):Int)=(10:Int)^k:=Int.natCast_pow _ _;rw[←e]at h;omega
theorem Nq {z:Int}{k:Nat}(hk:0<k)(h:aj z<10^k):(bM z).length<=k+1:=by
 have:=tG hk h;by_cases hz:z<0
 . rw[mZ hz,List.length_cons];omega
 . rw[kL hz];omega
theorem adl {q:Rat}{k:Nat}(hk:0<k)(h:Dq k q):(aQ q.den).length<=k:=by
 have:=tG (z:=(q.den:Int)) hk (by rw[ck (by omega)];exact h.2);rw[ck (by omega)]at this;exact this
theorem Dq.lq {q:Rat}{k N:Nat}(hk:0<k)(h:Dq k q)(hN:k+1<=N):Lq N q:=
 ⟨Nat.le_trans (Nq hk h.1) hN,Nat.le_trans (adl hk h) (by omega)⟩
theorem qS (q:Rat):preB 45 (ao q)=decide (q.num<0)/\bH 45 (ao q)=(if q.den=1 then aQ (aj q.num).toNat else aQ (aj q.num).toNat++47::aQ q.den):=by
 by_cases hn:q.num<0
 . rw[decide_eq_true hn];unfold ao;split
   . rw[mZ hn];exact⟨rfl,rfl⟩
   . rw[mZ hn];exact⟨rfl,rfl⟩
 . rw[decide_eq_false hn];unfold ao;rw[kL hn];have hp:=MT (aj q.num).toNat (c:=45) (by decide);split
   . exact⟨hp,jZ hp⟩
   . have hp2:preB 45 (aQ (aj q.num).toNat++47::aQ q.den)=false:=by
      cases hd:aQ (aj q.num).toNat with
      | nil=>exact absurd hd (oO _)
      | cons b t=>rw[hd]at hp;exact hp
     exact⟨hp2,jZ hp2⟩
theorem adm (q:Rat):cI (ao q)=aQ (aj q.num).toNat/\dz (ao q)=(if q.den=1 then [] else aQ q.den)/\gV (ao q)=decide (q.den≠1):=by
 have hn:=MS (jX (aj q.num).toNat) (c:=47) (by decide);unfold cI dz gV;rw[(qS q).2];by_cases h:q.den=1
 . rw[if_pos h,if_pos h,tB hn,decide_eq_false (by simpa using h)];exact⟨rfl,rfl,rfl⟩
 . rw[if_neg h,if_neg h,tC hn,decide_eq_true h];exact⟨rfl,rfl,rfl⟩
theorem adn (z:Int):(aj z).toNat=z.natAbs:=by unfold aj;split <;> omega
theorem Nr {s:ah}(h:dW s=true):Lw s:=by
 obtain⟨h1,h2⟩:=tE h;refine⟨h1,h2,fun h3=>?_⟩;simp only[dW,Bool.and_eq_true,Bool.or_eq_true,decide_eq_true_eq]at h;cases s with
 | nil=>exact absurd rfl h1
 | cons b t=>
  simp at h3;subst h3;rcases h.2 with h4|h4
  . exact absurd rfl h4
  . rw[h4];rfl
theorem Ns {s:ah}{k:Nat}(h:s.all bF=true)(hl:s.length<=k):((az 0 s:Nat):Int)<10^k:=by
 have h1:=mW s h;have h2:(az 0 s:Int)<(10:Int)^s.length:=by exact_mod_cast h1
 exact Int.lt_of_lt_of_le h2 (pg hl)
theorem ado {s:ah}{k:Nat}(h:cw s=0)(hl:s.length<=k):∃q,s=ao q/\Dq k q:=by
 have hform:kc s=true:=by
  cases hf:kc s with
  | true=>rfl
  | false=>unfold cw at h;rw[hf,if_pos rfl]at h;exact absurd h (by decide)
 have hcop:¬(gV s=true/\fT (az 0 (cI s)) (az 0 (dz s))=true):=fun hc=>by
  unfold cw at h;rw[hform,if_neg (by decide)]at h;split at h
  . exact absurd h (by decide)
  . exact absurd h (by decide)
 unfold kc at hform;rw[Bool.and_eq_true,Bool.and_eq_true]at hform;obtain⟨⟨f1,f2⟩,f3⟩:=hform;have hcl:=qP 45 s;have htl:(cI s).length<=k:=Nat.le_trans (Nat.le_trans (tF 47 _) hcl) hl;have hbl:(dz s).length<=k:=Nat.le_trans (Nat.le_trans (EP 47 _) hcl) hl;have hT:=Nr f1;have eT:=Lx hT;have hs:s=if preB 45 s=true then 45::bH 45 s else bH 45 s:=by
  cases hp:preB 45 s with
  | false=>rw[if_neg (by decide),jZ hp]
  | true=>
   rw[if_pos rfl];have hh:=of_decide_eq_true hp;unfold bH;rw[if_pos hh];cases s with
   | nil=>simp at hh
   | cons c t=>simp at hh;rw[hh];rfl
 obtain⟨z,hz⟩:∃z:Int,z=if preB 45 s=true then -(az 0 (cI s):Int) else (az 0 (cI s):Nat):=⟨_,rfl⟩
 have hza:aj z=(az 0 (cI s):Nat):=by
  rw[hz];unfold aj;cases preB 45 s with
  | false=>simp only[Bool.false_eq_true,↓reduceIte];exact if_neg (by omega)
  | true=>simp only[↓reduceIte];split <;> omega
 have hzn:preB 45 s=decide (z<0):=by
  cases hp:preB 45 s with
  | false=>
   rw[hp,if_neg (by decide)]at hz;exact(decide_eq_false (by omega)).symm
  | true=>
   rw[hp,if_pos rfl]at hz;rw[hp]at f2;have n0:az 0 (cI s)≠0:=fun e=>by
    rw[e,iq (by decide)]at eT;rw[←eT]at f2;exact absurd f2 (by decide)
   rw[decide_eq_true (by omega)]
 have hzt:bM z=if preB 45 s=true then 45::cI s else cI s:=by
  rw[hzn];by_cases hn:z<0
  . rw[mZ hn,hza,decide_eq_true hn,if_pos rfl];show 45::aQ (az 0 (cI s))=_;rw[eT]
  . rw[kL hn,hza,decide_eq_false hn,if_neg (by decide)];exact eT
 have hzb:aj z<10^k:=by rw[hza];exact Ns hT.2.1 htl
 have k1:(1:Int)<10^k:=by
  have h0:0<(cI s).length:=List.length_pos_iff.2 hT.1;have:=pg (show 1<=k by omega);rw[Int.pow_one]at this;omega
 cases hb:gV s with
 | false=>
  have hn:(bD 47 (bH 45 s)).2=none:=by
   unfold gV at hb;cases h:(bD 47 (bH 45 s)).2 with
   | none=>rfl
   | some y=>rw[h]at hb;cases hb
  have e:cI s=bH 45 s:=(nd hn).1;refine⟨Rat.divInt z 1,?_,?_⟩
  . unfold ao;rw[mT.1,mT.2,if_pos rfl,hzt,e];exact hs
  . exact⟨by rw[mT.1];exact hzb,by rw[mT.2];exact k1⟩
 | true=>
  rw[hb]at f3 hcop;simp only[Bool.not_true,Bool.false_or,Bool.and_eq_true,decide_eq_true_eq]at f3;have hB:=Nr f3.1.1;have eB:=Lx hB;have hd2:az 0 (dz s)≠0/\az 0 (dz s)≠1:=by
   refine⟨fun e=>?_,fun e=>?_⟩
   . rw[e,iq (by decide)]at eB;exact f3.1.2 eB.symm
   . rw[e,iq (by decide)]at eB;exact f3.2 eB.symm
  have hco:z.natAbs.Coprime (az 0 (dz s)):=by
   have h2:fT (az 0 (cI s)) (az 0 (dz s))=false:=by
    cases hc:fT (az 0 (cI s)) (az 0 (dz s)) with
    | false=>rfl
    | true=>exact absurd ⟨rfl,hc⟩ hcop
   have:z.natAbs=az 0 (cI s):=by rw[←adn,hza];rfl
   rw[this];simpa[fT] using h2
  refine⟨⟨z,az 0 (dz s),hd2.1,hco⟩,?_,hzb,Ns hB.2.1 hbl⟩;unfold gV at hb;obtain⟨y,hy⟩:=Option.isSome_iff_exists.1 hb;have e:=(qO hy).1;have eb:dz s=y:=by unfold dz;rw[hy];rfl
  have et:(bD 47 (bH 45 s)).1=cI s:=rfl;rw[et,←eb]at e;unfold ao;rw[if_neg hd2.2,hzt];show s=_++47::aQ (az 0 (dz s));rw[eB];cases hp:preB 45 s with
  | false=>rw[hp,if_neg (by decide),e]at hs;rw[if_neg (by decide)];exact hs
  | true=>rw[hp,if_pos rfl,e]at hs;rw[if_pos rfl];exact hs
theorem adp:ao 0=[48]:=by
 show (if (1:Nat)=1 then bM 0 else _)=_;rw[if_pos rfl,kL (by decide)];exact iq (by decide)
theorem adq {q:Rat}(h:ao q=[48]):q=0:=by
 obtain⟨e1,e2,e3⟩:=adm q;rw[h]at e1 e3;have a1:cI [48]=[48]:=rfl;have a3:gV [48]=false:=rfl;rw[a1]at e1;have:=lO (aj q.num).toNat;rw[←e1]at this;simp[az]at this;have h0:=iD (x:=q.num);refine Rat.num_eq_zero.1 ?_;unfold aj at this h0;split at this <;> omega
noncomputable def yE:List (Nat×Spec):=(183,EA)::(263,EB)::(264,EM)::(253,qJ)::(323,mH .same)::TI
theorem adr:cf Tryz.prog gl (bk yE):=aL acz (aL acA (aL acZ (aL YD (aL (vW acp) qK))))
theorem eSt:EI yE:=by repeat' first|exact fun _ _=>rfl|constructor
theorem cSt {N:Nat}(hN:N<=500000):yf (aY Tryz.prog FT yE) N:={ eSt.c hN with
 Mc:=fun z h hz=>acB z h hz
 En:=fun u h hu=>acC u h hu
 Md:=fun k h hk=>ada k h hk
 Me:=fun l b c h o n hl hv hb=>YE l b c h o n hl hv hb
 Mf:=fun l b c h o n hl hv hb=>YF l b c h o n hl hv hb
 Eo:=fun _ _=>rfl
 Ep:=fun _ _=>rfl
 qM:=fun _ _=>rfl
 pb:=fun _ _=>rfl }
noncomputable def EY:Spec:=sK yE 224
theorem adu:aR Tryz.prog gl 224 EY:=bc adr
theorem Nt {N:Nat}(hN:N<=500000):∀v z,ay v z->aj z<wB^N->∀h,EY [v] h=some ⟨.str (bM z),h,[]⟩:=fun v z hv lz=>bL (aaS (cSt hN) hv lz) (gw hv.top) rfl rfl
noncomputable def EZ:List (Nat×Spec):=(240,tc)::TI
theorem adv:EI EZ:=by repeat' first|exact fun _ _=>rfl|constructor
noncomputable def yF:Spec:=sK EZ 262
noncomputable def yG:Spec:=sK [(262,yF)] 223
noncomputable def Fa:Spec:=sK [(223,yG)] 175
theorem adw:aR Tryz.prog gl 262 yF:=bc (aL DJ qK)
theorem adx:aR Tryz.prog gl 223 yG:=bc (aL adw bx)
theorem ady:aR Tryz.prog gl 175 Fa:=bc (aL adx bx)
theorem adz {z:Int}(h:z<2^1800):z<wB^29:=by
 have e:wB=2^64:=by decide
 rw[e,←Int.pow_mul];exact Int.lt_of_lt_of_le h (fR (by decide) (by decide))
theorem adA:∀v z h,ay v z->aj z<2^1800->yG [v] h=some ⟨.bool false,h,[]⟩:=fun v z h hv lz=>by
 have q262:∀h,yF [v] h=some ⟨.iV (bY (aj z)),h,[]⟩:=cY (Yk (M:=aY Tryz.prog FT EZ) (adv.c (N:=29) (by decide)) (fun x h hx=>DK x h hx) hv (adz lz)) (gw hv.top);exact bL (aaT (M:=aY Tryz.prog FT [(262,yF)]) bm hv lz q262) (gw hv.top) rfl rfl h
theorem adB:∀v q,aZ v q->aj q.num<2^1800->(q.den:Int)<2^1800->∀h,Fa [v] h=some ⟨.bool false,h,[]⟩:=fun v q hv l1 l2=>
 bL (aaU (M:=aY Tryz.prog FT [(223,yG)]) bm hv l1 l2 fun v z h hv lz=>adA v z h hv lz) (gw hv.top) rfl rfl
noncomputable def Nu:List (Nat×Spec):=[(201,ti),(224,EY)]
noncomputable def Fb:Spec:=sK Nu 176
theorem adC:aR Tryz.prog gl 176 Fb:=bc (aL KZ (aL adu bx))
theorem adD (n:Nat):bM (n:Int)=aQ n:=by
 rw[kL (by omega),ck (by omega)];rfl
theorem Dq.bq {k N:Nat}{q:Rat}(h:Dq k q)(hN:k<=N):Bq N q:=by
 have e:(10:Int)^k<=wB^N:=Int.le_trans (pg hN) (by
  clear hN;induction N with
  | zero=>decide
  | succ n ih=>
   rw[Int.pow_succ,Int.pow_succ];have h0:(0:Int)<=10^n:=Int.le_of_lt (pf n);have h1:(0:Int)<=wB^n:=Int.le_trans h0 ih;exact Int.le_trans (Int.mul_le_mul_of_nonneg_right ih (by decide)) (Int.mul_le_mul_of_nonneg_left (by decide) h1))
 exact⟨Int.lt_of_lt_of_le h.1 e,Int.lt_of_lt_of_le h.2 e⟩
theorem adE {k:Nat}(h:k<=450):(10:Int)^k<=2^1800:=by
 have e:(10:Int)^k<=(2^4)^k:=by
  clear h;induction k with
  | zero=>decide
  | succ n ih=>
   rw[Int.pow_succ,Int.pow_succ];have h0:(0:Int)<=10^n:=Int.le_of_lt (pf n);have h1:(0:Int)<=(2^4)^n:=Int.le_trans h0 ih;exact Int.le_trans (Int.mul_le_mul_of_nonneg_right ih (by decide)) (Int.mul_le_mul_of_nonneg_left (by decide) h1)
 rw[←Int.pow_mul]at e;exact Int.le_trans e (fR (by decide) (by omega))
theorem adF:∀v q,aZ v q->Dq 450 q->∀h,Fb [v] h=some ⟨.str (ao q),h,[]⟩:=fun v q hv hq=>by
 have lq:=hq.lq (N:=451) (by decide) (by decide);have bq:=hq.bq (N:=450) (Nat.le_refl _);exact bL (aaW (M:=aY Tryz.prog FT Nu) bm hv ⟨by have:=lq.1;omega,by have:=lq.2;omega⟩ (fun h=>Lc v q hv h) (fun v h hv=>Nt (by decide) v _ hv bq.1 h) (fun v h hv=>by
  have:=Nt (N:=450) (by decide) v _ hv (by rw[ck (by omega)];exact bq.2) h;rw[adD]at this;exact this)) (gw hv.top) rfl rfl
noncomputable def Nv:List (Nat×Spec):=[(175,Fa),(176,Fb)]
noncomputable def Fc:Spec:=sK Nv 105
theorem adG:aR Tryz.prog gl 105 Fc:=bc (aL ady (aL adC bx))
theorem adH:∀v q,aZ v q->Dq 450 q->∀h,Fc [v] h=some ⟨.au [.str (ao q),.iV 0],h,[]⟩:=fun v q hv hq=>by
 have e:=adE (Nat.le_refl 450);exact bL (adg (M:=aY Tryz.prog FT Nv) bm hv (fun h=>adB v q hv (Int.lt_of_lt_of_le hq.1 e) (Int.lt_of_lt_of_le hq.2 e) h) (fun h=>adF v q hv hq h)) (gw hv.top) rfl rfl
noncomputable def yH:Spec:=sK TF 215
theorem adI:aR Tryz.prog gl 215 yH:=bc DR
theorem adJ {A:Int}(hA:aj A<=10)(i:Nat):aj (A^i)<=10^i:=by
 induction i with
 | zero=>
  rw[Int.pow_zero,Int.pow_zero];decide
 | succ n ih=>
  rw[Int.pow_succ,Int.pow_succ,sW];exact Int.le_trans (Int.mul_le_mul_of_nonneg_right ih iD) (Int.mul_le_mul_of_nonneg_left hA (Int.le_of_lt (pf n)))
theorem adK:∀v A (K:Nat),ay v A->K<=18->aj A<=10->∃v0,ay v0 (A^K)/\∀h,yH [v,.iV K] h=some ⟨v0,h,[]⟩:=fun v A K hv hK hA=>by
 obtain⟨v0,h1,h2⟩:=Ym (eF.c (N:=1) (by decide) (by decide)) hv (K:=K) (by omega) fun i hi=>by
  have wu:(10:Int)^i<=10^18:=pg (by omega);have hw:(10:Int)^18<wB^1:=by decide
  exact Int.lt_of_le_of_lt (Int.le_trans (adJ hA i) wu) hw
 exact⟨v0,h1,cY h2 (eA hv.top rfl)⟩
noncomputable def yI:List (Nat×Spec):=(212,tD)::(213,yw)::(214,yD)::(215,yH)::TF
theorem Nw:cf Tryz.prog gl (bk yI):=aL Nj (aL acE (aL acS (aL adI DR)))
structure yJ (T:List (Nat×Spec)):Prop extends EF T where
 adL:∀ar h,bk T 212 ar h=tD ar h
 adM:∀ar h,bk T 213 ar h=yw ar h
 adN:∀ar h,bk T 214 ar h=yD ar h
 adO:∀ar h,bk T 215 ar h=yH ar h
theorem yJ.c (E:yJ T){N:Nat}(h1:1<=N)(hN:N<=500000):yj (aY Tryz.prog FT T) N:={ E.toEF.c h1 hN with
 MN:=fun s h hl=>(E.adL _ _).trans (yy s 45 h hl)
 MO:=fun s h hl=>(E.adM _ _).trans (acH s 45 h hl)
 MP:=fun s h h0 hl hd=>(E.adN _ _).trans (acW s h h0 hl hd)
 MQ:=fun v A K hv hK _ hA=>by
  obtain⟨v0,k1,k2⟩:=adK v A K hv hK hA;exact⟨v0,k1,fun h=>(E.adO _ _).trans (k2 h)⟩ }
theorem eRd:yJ yI:=by repeat' first|exact fun _ _=>rfl|constructor
noncomputable def yK:Spec:=sK yI 166
theorem adQ:aR Tryz.prog gl 166 yK:=bc Nw
theorem adR {N:Nat}(h1:1<=N)(hN:N<=500000):∀(s:ah),s.length<=N->(bH 45 s).all bF=true->∃v0,ay v0 (if preB 45 s then -(az 0 (bH 45 s):Int) else (az 0 (bH 45 s):Nat))/\∀h,yK [.str s] h=some ⟨v0,h,[]⟩:=fun s hl hd=>by
 obtain⟨v0,k1,k2⟩:=aca (eRd.c h1 hN) s hl hd;exact⟨v0,k1,cY k2 rfl⟩
noncomputable def yL:List (Nat×Spec):=(163,yz)::(166,yK)::yI
theorem Nx:cf Tryz.prog gl (bk yL):=aL acK (aL adQ Nw)
structure yM (T:List (Nat×Spec)):Prop extends yJ T where
 adS:∀ar h,bk T 163 ar h=yz ar h
 adT:∀ar h,bk T 166 ar h=yK ar h
theorem yM.c (E:yM T){N:Nat}(h1:1<=N)(hN:N<=500000):lT (aY Tryz.prog FT T) N:={ E.toyJ.c h1 hN with
 Ey:=fun s h hl=>(E.adS _ _).trans (acL s 47 h hl)
 Ez:=by simp only[E.adT];exact adR h1 hN }
theorem eFm:yM yL:=by repeat' first|exact fun _ _=>rfl|constructor
noncomputable def yN:Spec:=sK yL 103
theorem Ny:aR Tryz.prog gl 103 yN:=bc Nx
theorem Nz {N:Nat}(h1:1<=N)(hN:N<=400000):∀q,Lq N q->∃v0,aZ v0 q/\∀h,yN [.str (ao q)] h=some ⟨v0,h,[]⟩:=fun q lq=>by
 obtain⟨v0,k1,k2⟩:=acf (eFm.c h1 (by omega)) hN lq;exact⟨v0,k1,cY k2 rfl⟩
noncomputable def yO:List (Nat×Spec):=(162,EC)::(164,EK)::(165,tg)::(97,sx)::(96,ky)::yL
theorem adV:cf Tryz.prog gl (bk yO):=aL acG (aL acR (aL KV (aL CY (aL CZ Nx))))
theorem eCk:yM yO:=by repeat' first|exact fun _ _=>rfl|constructor
theorem yP {v:AV}{h:ab}{l:List Int}(hl:ie h v=some l)(hn:l.length<1000):ky [v] h=some ⟨.iV (dD l),h,[]⟩:=by
 simp only[ky,hl];rw[if_pos (by omega)]
theorem cCk:EN (aY Tryz.prog FT yO) 600:={ eCk.c (by decide) (by decide) with
  Nm:=fun s h hl=>acI s 45 h hl
  EO:=fun s h hl=>acV s h hl
  sV:=fun a b x y ha hb hx hy=>KW (by decide) (by decide) a b x y ha hb hx hy
  jB:=fun _ _ _=>rfl
  jj:=fun v h l hl hn=>yP hl hn }
noncomputable def tH:Spec:=sK yO 84
theorem NA:aR Tryz.prog gl 84 tH:=bc adV
theorem Fe:∀(s:ah) h,s.length<1000000->tH [.str s] h=some ⟨.iV (cw s),h,[]⟩:=fun s h hl=>bL (w84 cCk (Nat.le_refl _) s hl) rfl rfl rfl h
noncomputable def yQ:Spec:=sL [(84,tH)] 101
theorem NB:aR Tryz.prog gl 101 yQ:=iL (aL NA bx)
theorem NC:∀v h a b,cO h v (.vs [.str a,.str b] 2 none)->a.length<1000000->b.length<1000000->yQ [v] h=some ⟨.iV (dD [cw a,cw b]),h,[]⟩:=fun v h a b hf ha hb=>
 ot (adf (M:=aY Tryz.prog FT [(84,tH)]) bm a b _ _ (fun h=>Fe a h ha) (fun h=>Fe b h hb)) rfl rfl rfl (.cons hf .nil)
set_option maxRecDepth 1000000
def ND:an:=zR [zi 1 0] (zR [zm 8 0,zw 2 8] (.seq (zR [zm 9 2,zL 10 9,zc 11 .gtr 10 0,zn 12 11,zg (zm 13 2) 12 true,⟨.l 14,.index (.l 13) (kI 0),some ((.l 12),true)⟩,⟨.l 15,.bin .eql (.l 14) (.c (.int .u8 (45))),some ((.l 12),true)⟩,zp 16 12 15] (.cond (.l 16) (.region [zm 17 2,⟨.l 18,.slice .str 1 (.l 17) (some (kI 1)) none none,none⟩,zw 2 18]) (.skip))) (zR [zm 19 2,z1 20 153 19,zw 3 20] (.seq (zR [zm 21 2,zm 22 3,⟨.l 23,.slice .str 1 (.l 21) none (some (.l 22)) none,none⟩,z1 24 154 23,zu 25 24,zn 26 25,zg (zm 27 0) 26 false,⟨.l 28,.index (.l 27) (kI 0),some ((.l 26),false)⟩,⟨.l 29,.bin .eql (.l 28) (.c (.int .u8 (45))),some ((.l 26),false)⟩,zg (zn 30 29) 26 false,zg (zm 31 2) 30 true,zg (zm 32 3) 30 true,⟨.l 33,.slice .str 1 (.l 31) none (some (.l 32)) none,some ((.l 30),true)⟩,⟨.l 34,.bin .eql (.l 33) (.c (.str [48])),some ((.l 30),true)⟩,zg (zp 35 30 34) 26 false,zP 36 26 35] (.cond (.l 36) (zR [zi 1 1] (.ret)) (.skip))) (.seq (zR [zm 37 3,zm 38 2,zL 39 38,zb 40 .lss 37 39,zn 41 40,zg (zm 42 2) 41 true,zg (zm 43 3) 41 true,zg (zc 44 .add 43 1) 41 true,⟨.l 45,.slice .str 1 (.l 42) (some (.l 44)) none none,some ((.l 41),true)⟩,zg (z1 46 154 45) 41 true,zg (zu 47 46) 41 true,zg (zn 48 47) 41 true,zg (zm 49 2) 48 false,zg (zm 50 3) 48 false,zg (zc 51 .add 50 1) 48 false,⟨.l 52,.slice .str 1 (.l 49) (some (.l 51)) none none,some ((.l 48),false)⟩,⟨.l 53,.bin .eql (.l 52) (.c (.str [48])),some ((.l 48),false)⟩,zg (zP 54 48 53) 41 true,zg (zn 55 54) 41 true,zg (zm 56 2) 55 false,zg (zm 57 3) 55 false,zg (zc 58 .add 57 1) 55 false,⟨.l 59,.slice .str 1 (.l 56) (some (.l 58)) none none,some ((.l 55),false)⟩,⟨.l 60,.bin .eql (.l 59) (.c (.str [49])),some ((.l 55),false)⟩,zg (zP 61 55 60) 41 true,zp 62 41 61] (.cond (.l 62) (zR [zi 1 1] (.ret)) (.skip))) (.seq (zR [zm 63 3,zc 64 .gtr 63 600,zn 65 64,zg (zm 66 2) 65 false,zg (zL 67 66) 65 false,zg (zm 68 3) 65 false,zg (zb 69 .sub 67 68) 65 false,zg (zc 70 .sub 69 1) 65 false,zg (zc 71 .gtr 70 600) 65 false,zP 72 65 71] (.cond (.l 72) (zR [zi 1 4] (.ret)) (.skip))) (.seq (zR [zm 73 3,zm 74 2,zL 75 74,zb 76 .lss 73 75] (.cond (.l 76) (zR [zm 78 2,z1 79 135 78,zn 77 79,ze 80 0 77,ze 81 1 77,⟨.p 4,.alloc 162 [.bool false,.aa],none⟩,⟨.p 5,.alloc 162 [.bool false,.aa],none⟩,zs 2 4 80,zs 2 5 81] (zR [zf 82 1 4,zd 83 1 82,zf 84 1 5,zd 85 1 84,z2 86 155 83 85,zw 6 86] (zR [zm 87 6,zl 88 87,zc 89 .neq 88 1,zn 90 89,zg (zm 91 6) 90 false,⟨.l 92,.du none 1 (.l 91) (kI 0),some ((.l 90),false)⟩,zg (zd 93 1 92) 90 false,zg (zc 94 .neq 93 1) 90 false,zP 95 90 94] (.cond (.l 95) (zR [zi 1 1] (.ret)) (.skip))))) (.skip))) (zR [zi 1 0] (.ret)))))))))
theorem adY:FT 62=some ⟨96,[0,2,3,4,5,6,7],[.var (.p 1)],ND⟩:=by kernel_rfl
def tI:an:=.seq (zR [zm 4 2,zm 5 0,zL 6 5,zb 7 .lss 4 6] (.cond (.l 7) (.skip) (.exit 0))) (.seq (.block 1 (zR [zm 10 0,zm 11 2,⟨.l 12,.index (.l 10) (.l 11),none⟩,⟨.l 13,.bin .eql (.l 12) (.c (.int .u8 (47))),none⟩] (.cond (.l 13) (zR [zm 14 2,zw 1 14] (.ret)) (.skip)))) (.region [zm 8 2,zc 9 .add 8 1,zw 2 9]))
def NF:an:=zR [zi 1 0] (.seq (zR [zi 2 0] (.block 0 (.loop tI))) (zR [zm 15 0,zL 16 15,zw 1 16] (.ret)))
theorem adZ:FT 153=some ⟨17,[0,2,3],[.var (.p 1)],NF⟩:=by kernel_rfl
def tJ:an:=zR [⟨.p 1,.mv (.c (.bool false)),none⟩] (.seq (zR [zm 3 0,zL 4 3,zc 5 .eql 4 0,zn 6 5,zg (zm 7 0) 6 false,zg (zL 8 7) 6 false,zg (zc 9 .gtr 8 1) 6 false,zg (zn 10 9) 6 false,zg (zm 11 0) 10 true,⟨.l 12,.index (.l 11) (kI 0),some ((.l 10),true)⟩,⟨.l 13,.bin .eql (.l 12) (.c (.int .u8 (48))),some ((.l 10),true)⟩,zg (zp 14 10 13) 6 false,zP 15 6 14] (.cond (.l 15) (zR [⟨.p 1,.mv (.c (.bool false)),none⟩] (.ret)) (.skip))) (zR [zm 16 0,z1 17 204 16,zw 1 17] (.ret)))
theorem aea:FT 154=some ⟨18,[0,2],[.var (.p 1)],tJ⟩:=by kernel_rfl
def tK:an:=.seq (zR [zm 4 2,zm 5 0,zL 6 5,zb 7 .lss 4 6] (.cond (.l 7) (.skip) (.exit 0))) (.seq (.block 1 (zR [zm 10 0,zm 11 2,⟨.l 12,.index (.l 10) (.l 11),none⟩,⟨.l 13,.bin .lss (.l 12) (.c (.int .u8 (48))),none⟩,zn 14 13,zg (zm 15 0) 14 false,zg (zm 16 2) 14 false,⟨.l 17,.index (.l 15) (.l 16),some ((.l 14),false)⟩,⟨.l 18,.bin .gtr (.l 17) (.c (.int .u8 (57))),some ((.l 14),false)⟩,zP 19 14 18] (.cond (.l 19) (zR [⟨.p 1,.mv (.c (.bool false)),none⟩] (.ret)) (.skip)))) (.region [zm 8 2,zc 9 .add 8 1,zw 2 9]))
def NG:an:=zR [⟨.p 1,.mv (.c (.bool false)),none⟩] (.seq (zR [zi 2 0] (.block 0 (.loop tK))) (zR [⟨.p 1,.mv (.c (.bool true)),none⟩] (.ret)))
theorem aeb:FT 204=some ⟨20,[0,2,3],[.var (.p 1)],NG⟩:=by kernel_rfl
def Ff:an:=zR [⟨.p 1,.alloc 162 [.bool false,.aa],none⟩,⟨.p 2,.alloc 162 [.bool false,.aa],none⟩] (zR [zm 6 0,zw 3 6] (zR [zm 7 3,z1 8 153 7,zw 4 8] (.seq (zR [zm 9 4,zm 10 3,zL 11 10,zb 12 .eql 9 11] (.cond (.l 12) (zR [zm 13 3,z1 14 193 13,⟨.l 15,.call (kF 139) [(kI 1)],none⟩,zs 2 1 14,zs 2 2 15] (.ret)) (.skip))) (.seq (.draw [(zm 16 3,[]),(zm 17 4,[0]),(⟨.l 18,.slice .str 1 (.l 16) none (some (.l 17)) none,none⟩,[]),(z1 19 193 18,[]),(zm 20 3,[0,1,2,3]),(zm 21 4,[0,1,2,3,4]),(zc 22 .add 21 1,[0,1,2,3,4]),(⟨.l 23,.slice .str 1 (.l 20) (some (.l 22)) none none,none⟩,[0,1,2,3]),(z1 24 193 23,[]),(zs 2 1 19,[]),(zs 2 2 24,[])]) (.ret)))))
theorem NH:FT 135=some ⟨25,[0,2,3,4,5],[.cell 2 true (.p 1),.cell 2 true (.p 2)],Ff⟩:=by kernel_rfl
def tL:an:=.seq (zR [zm 16 0,zL 17 16,zc 18 .gtr 17 9] (.cond (.l 18) (.skip) (.exit 0))) (.block 1 (zR [zm 19 3,zm 20 0,zm 21 0,zL 22 21,zc 23 .sub 22 9,⟨.l 24,.slice .str 1 (.l 20) (some (.l 23)) none none,none⟩,z1 25 192 24,⟨.l 26,.dQ 3 1 1 [.iV (0)] [(0,1,(.l 25))],none⟩,⟨.l 27,.append 3 1 8 (.l 19) (.l 26),none⟩,zw 3 27] (.region [zm 28 0,zm 29 0,zL 30 29,zc 31 .sub 30 9,⟨.l 32,.slice .str 1 (.l 28) none (some (.l 31)) none,none⟩,zw 0 32])))
def NI:an:=zR [⟨.p 1,.alloc 162 [.bool false,.aa],none⟩] (zR [zm 5 0,zL 6 5,zc 7 .gtr 6 0,zn 8 7,zg (zm 9 0) 8 true,⟨.l 10,.index (.l 9) (kI 0),some ((.l 8),true)⟩,⟨.l 11,.bin .eql (.l 10) (.c (.int .u8 (45))),some ((.l 8),true)⟩,zp 12 8 11,zw 2 12] (.seq (zR [zm 13 2] (.cond (.l 13) (.region [zm 14 0,⟨.l 15,.slice .str 1 (.l 14) (some (kI 1)) none none,none⟩,zw 0 15]) (.skip))) (zR [⟨.p 3,.mv (.c (.aa)),none⟩] (.seq (.block 0 (.loop tL)) (zR [zm 33 2,zm 34 3,zm 35 0,z1 36 192 35,⟨.l 37,.dQ 3 1 1 [.iV (0)] [(0,1,(.l 36))],none⟩,⟨.l 38,.append 3 1 8 (.l 34) (.l 37),none⟩,z2 39 196 33 38,zs 2 1 39] (.ret))))))
theorem aec:FT 193=some ⟨40,[0,2,3,4],[.cell 2 true (.p 1)],NI⟩:=by kernel_rfl
def yR:an:=.seq (zR [zm 5 3,zm 6 0,zL 7 6,zb 8 .lss 5 7] (.cond (.l 8) (.skip) (.exit 0))) (.seq (.block 1 (.region [zm 11 2,⟨.l 12,.bin .mul (kI 10) (.l 11),none⟩,zm 13 0,zm 14 3,⟨.l 15,.index (.l 13) (.l 14),none⟩,⟨.l 16,.dE .i64 (.l 15),none⟩,zb 17 .add 12 16,zc 18 .sub 17 48,zw 2 18])) (.region [zm 9 3,zc 10 .add 9 1,zw 3 10]))
def NJ:an:=zR [zi 1 0] (zR [zi 2 0] (.seq (zR [zi 3 0] (.block 0 (.loop yR))) (zR [zm 19 2,zw 1 19] (.ret))))
theorem aed:FT 192=some ⟨20,[0,2,3,4],[.var (.p 1)],NJ⟩:=by kernel_rfl
def qT:an:=.seq (zR [zm 8 0,zc 9 .neq 8 0] (.cond (.l 9) (.skip) (.exit 0))) (.block 1 (zR [zm 10 0,zc 11 .rem 10 1000000000,zw 4 11] (.seq (zR [zm 12 4,zc 13 .lss 12 0] (.cond (.l 13) (.region [zm 14 4,⟨.l 15,.bin .sub (kI 0) (.l 14),none⟩,zw 4 15]) (.skip))) (zR [zm 16 2,zm 17 4,⟨.l 18,.dQ 3 1 1 [.iV (0)] [(0,1,(.l 17))],none⟩,⟨.l 19,.append 3 1 8 (.l 16) (.l 18),none⟩,zw 2 19] (.region [zm 20 0,zc 21 .quo 20 1000000000,zw 0 21])))))
def Fg:an:=zR [⟨.p 1,.alloc 162 [.bool false,.aa],none⟩] (zR [⟨.p 2,.mv (.c (.aa)),none⟩] (zR [zm 6 0,zc 7 .lss 6 0,zw 3 7] (.seq (.block 0 (.loop qT)) (zR [zm 22 3,zm 23 2,z2 24 196 22 23,zs 2 1 24] (.ret)))))
theorem aee:FT 139=some ⟨25,[0,2,3,4,5],[.cell 2 true (.p 1)],Fg⟩:=by kernel_rfl
def tM:an:=zR [⟨.p 2,.alloc 162 [.bool false,.aa],none⟩] (zR [zm 5 1,z1 6 242 5,zw 1 6] (zR [zm 7 0,zn 8 7,zg (zm 9 1) 8 true,zg (zl 10 9) 8 true,zg (zc 11 .gtr 10 0) 8 true,zp 12 8 11,zm 13 1,⟨.l 14,.build [.bool false,.aa] [(0,1,(.l 12)),(1,1,(.l 13))],none⟩,zs 2 2 14] (.ret)))
theorem yS:FT 196=some ⟨15,[0,1,4],[.cell 2 true (.p 2)],tM⟩:=by kernel_rfl
def jD:an:=.seq (zR [zm 3 0,zl 4 3,zc 5 .gtr 4 0,zn 6 5,zg (zm 7 0) 6 true,zg (zm 8 0) 6 true,zg (zl 9 8) 6 true,zg (zc 10 .sub 9 1) 6 true,zg (za 11 1 7 10) 6 true,zg (zd 12 1 11) 6 true,zg (zc 13 .eql 12 0) 6 true,zp 14 6 13] (.cond (.l 14) (.skip) (.exit 0))) (.block 1 (.region [zm 15 0,zm 16 0,zl 17 16,zc 18 .sub 17 1,⟨.l 19,.slice .sl 1 (.l 15) none (some (.l 18)) none,none⟩,zw 0 19]))
def tN:an:=zR [⟨.p 1,.mv (.c (.aa)),none⟩] (.seq (.block 0 (.loop jD)) (zR [zm 20 0,zw 1 20] (.ret)))
theorem yT:FT 242=some ⟨21,[0,2],[.var (.p 1)],tN⟩:=by kernel_rfl
def tO:an:=.seq (zR [zm 7 1,zl 8 7,zc 9 .gtr 8 0] (.cond (.l 9) (.skip) (.exit 0))) (.block 1 (zR [zm 11 0,zm 12 1,z2 13 195 11 12,zn 10 13,ze 14 0 10,ze 15 1 10,zn 5 14,zw 3 15] (.region [zm 16 1,zm 17 3,zw 0 16,zw 1 17])))
def Fh:an:=zR [⟨.p 2,.mv (.c (.aa)),none⟩] (.seq (.block 0 (.loop tO)) (zR [zm 18 0,zw 2 18] (.ret)))
theorem NK:FT 155=some ⟨19,[0,1,4,6],[.var (.p 2)],Fh⟩:=by kernel_rfl
def yU:an:=.seq (zR [zm 63 9,zl 64 63,zm 65 0,zl 66 65,zc 67 .add 66 1,zb 68 .lss 64 67] (.cond (.l 68) (.skip) (.exit 0))) (.block 1 (.region [zm 69 9,⟨.l 70,.dQ 3 1 1 [.iV (0)] [(0,1,(kI 0))],none⟩,⟨.l 71,.append 3 1 8 (.l 69) (.l 70),none⟩,zw 9 71]))
def yV:an:=.seq (zR [zm 90 14,zm 91 8,zb 92 .lss 90 91] (.cond (.l 92) (.skip) (.exit 4))) (.seq (.block 5 (zR [zm 95 12,zm 96 7,zm 97 14,za 98 1 96 97,zd 99 1 98,zb 100 .mul 95 99,zm 101 13,zb 102 .add 100 101,zw 15 102] (zR [zm 103 9,zm 104 14,zm 105 11,zb 106 .add 104 105,za 107 1 103 106,zd 108 1 107,zm 109 15,zc 110 .rem 109 1000000000,zb 111 .sub 108 110,zw 16 111] (zR [zm 112 15,zc 113 .quo 112 1000000000,zw 13 113] (.seq (zR [zm 114 16,zc 115 .lss 114 0] (.cond (.l 115) (zR [zm 116 16,zc 117 .add 116 1000000000,zw 16 117] (.region [zm 118 13,zc 119 .add 118 1,zw 13 119])) (.skip))) (.region [zm 120 9,zm 121 14,zm 122 11,zb 123 .add 121 122,zm 124 16,za 125 1 120 123,zS 1 125 124])))))) (.region [zm 93 14,zc 94 .add 93 1,zw 14 94]))
def yW:an:=.seq (zR [zm 148 18,zm 149 8,zb 150 .lss 148 149] (.cond (.l 150) (.skip) (.exit 6))) (.seq (.block 7 (.seq (.draw [(zm 153 9,[]),(zm 154 18,[0]),(zm 155 11,[0,1]),(zb 156 .add 154 155,[0]),(za 157 1 153 156,[]),(zd 158 1 157,[]),(zm 159 7,[0,1,2,3,4,5]),(zm 160 18,[0,1,2,3,4,5,6]),(za 161 1 159 160,[0,1,2,3,4,5]),(zd 162 1 161,[0,1,2,3,4,5]),(zb 163 .add 158 162,[]),(zm 164 17,[0,1,2,3,4,5,6,7,8,9,10]),(zb 165 .add 163 164,[]),(zw 19 165,[])]) (zR [zm 166 9,zm 167 18,zm 168 11,zb 169 .add 167 168,zm 170 19,zc 171 .rem 170 1000000000,za 172 1 166 169,zS 1 172 171] (.region [zm 173 19,zc 174 .quo 173 1000000000,zw 17 174])))) (.region [zm 151 18,zc 152 .add 151 1,zw 18 152]))
def yX:an:=.seq (zR [zm 82 11,zc 83 .geq 82 0] (.cond (.l 83) (.skip) (.exit 2))) (.seq (.block 3 (zR [zm 86 9,zm 87 7,zm 88 11,⟨.l 89,.call (kF 243) [(.l 86),(.l 87),(.l 88)],none⟩,zw 12 89] (zR [zi 13 0] (.seq (zR [zi 14 0] (.block 4 (.loop yV))) (zR [zm 126 9,zm 127 11,zm 128 8,zb 129 .add 127 128,zm 130 9,zm 131 11,zm 132 8,zb 133 .add 131 132,za 134 1 130 133,zd 135 1 134,zm 136 13,zb 137 .sub 135 136,za 138 1 126 129,zS 1 138 137] (.seq (zR [zm 139 9,zm 140 11,zm 141 8,zb 142 .add 140 141,za 143 1 139 142,zd 144 1 143,zc 145 .lss 144 0] (.cond (.l 145) (zR [zm 146 12,zc 147 .sub 146 1,zw 12 147] (zR [zi 17 0] (.seq (zR [zi 18 0] (.block 6 (.loop yW))) (.region [zm 175 9,zm 176 11,zm 177 8,zb 178 .add 176 177,zm 179 9,zm 180 11,zm 181 8,zb 182 .add 180 181,za 183 1 179 182,zd 184 1 183,zm 185 17,zb 186 .add 184 185,za 187 1 175 178,zS 1 187 186])))) (.skip))) (.region [zm 188 10,zm 189 11,zm 190 12,za 191 1 188 189,zS 1 191 190]))))))) (.region [zm 84 11,zc 85 .sub 84 1,zw 11 85]))
def Fi:an:=zR [⟨.p 2,.mv (.c (.aa)),none⟩,⟨.p 3,.mv (.c (.aa)),none⟩] (.seq (zR [zm 24 0,zm 25 1,z2 26 218 24 25,zc 27 .lss 26 0] (.cond (.l 27) (zR [zm 28 0,⟨.p 2,.mv (.c (.aa)),none⟩,zw 3 28] (.ret)) (.skip))) (.seq (zR [zm 29 1,zl 30 29,zc 31 .eql 30 1] (.cond (.l 31) (zR [zm 33 0,zm 34 1,⟨.l 35,.du none 1 (.l 34) (kI 0),none⟩,zd 36 1 35,z2 37 241 33 36,zn 32 37,ze 38 0 32,ze 39 1 32,zw 4 38,zw 5 39] (zR [zm 40 4,zm 41 5,⟨.l 42,.dQ 3 1 1 [.iV (0)] [(0,1,(.l 41))],none⟩,z1 43 242 42,zw 2 40,zw 3 43] (.ret))) (.skip))) (zR [zm 44 1,zm 45 1,zl 46 45,zc 47 .sub 46 1,za 48 1 44 47,zd 49 1 48,zc 50 .add 49 1,⟨.l 51,.bin .quo (kI 1000000000) (.l 50),none⟩,⟨.l 52,.dQ 3 1 1 [.iV (0)] [(0,1,(.l 51))],none⟩,zw 6 52] (zR [zm 53 1,zm 54 6,z2 55 197 53 54,zw 7 55] (zR [zm 56 7,zl 57 56,zw 8 57] (zR [⟨.l 58,.dQ 3 0 1 [.iV (0)] [],none⟩,zm 59 0,zm 60 6,z2 61 197 59 60,⟨.l 62,.append 3 1 8 (.l 58) (.l 61),none⟩,zw 9 62] (.seq (.block 0 (.loop yU)) (zR [zm 72 9,zl 73 72,zm 74 8,zb 75 .sub 73 74,⟨.l 76,.gA 3 1 8 [.iV (0)] (.l 75) (.l 75),none⟩,zw 10 76] (.seq (zR [zm 77 9,zl 78 77,zm 79 8,zb 80 .sub 78 79,zc 81 .sub 80 1,zw 11 81] (.block 2 (.loop yX))) (.seq (.draw [(zm 193 9,[]),(zm 194 8,[0]),(⟨.l 195,.slice .sl 1 (.l 193) none (some (.l 194)) none,none⟩,[]),(z1 196 242 195,[]),(zm 197 6,[0,1,2,3]),(⟨.l 198,.du none 1 (.l 197) (kI 0),none⟩,[0,1,2,3]),(zd 199 1 198,[0,1,2,3]),(z2 200 241 196 199,[]),(zn 192 200,[]),(ze 201 0 192,[]),(ze 202 1 192,[9]),(zw 20 201,[10]),(zn 23 202,[])]) (zR [zm 203 10,z1 204 242 203,zm 205 20,zw 2 204,zw 3 205] (.ret))))))))))))
theorem NL:FT 195=some ⟨206,[0,1,4,5,6,7,8,9,10,11,12,13,14,15,16,17,18,19,20,21,22],[.var (.p 2),.var (.p 3)],Fi⟩:=by kernel_rfl
def qU:an:=.seq (zR [zm 19 3,zc 20 .geq 19 0] (.cond (.l 20) (.skip) (.exit 0))) (.seq (.block 1 (.seq (.seq (.draw [(zm 23 0,[]),(zm 24 3,[0]),(za 25 1 23 24,[]),(zd 26 1 25,[]),(zm 27 1,[0,1,2,3]),(zm 28 3,[0,1,2,3,4]),(za 29 1 27 28,[0,1,2,3]),(zd 30 1 29,[0,1,2,3]),(zb 31 .lss 26 30,[])]) (.cond (.l 31) (zR [zi 2 (-1)] (.ret)) (.skip))) (.seq (.draw [(zm 32 0,[]),(zm 33 3,[0]),(za 34 1 32 33,[]),(zd 35 1 34,[]),(zm 36 1,[0,1,2,3]),(zm 37 3,[0,1,2,3,4]),(za 38 1 36 37,[0,1,2,3]),(zd 39 1 38,[0,1,2,3]),(zb 40 .gtr 35 39,[])]) (.cond (.l 40) (zR [zi 2 1] (.ret)) (.skip))))) (.region [zm 21 3,zc 22 .sub 21 1,zw 3 22]))
def Fj:an:=zR [zi 2 0] (.seq (zR [zm 6 0,zl 7 6,zm 8 1,zl 9 8,zb 10 .neq 7 9] (.cond (.l 10) (.seq (zR [zm 11 0,zl 12 11,zm 13 1,zl 14 13,zb 15 .lss 12 14] (.cond (.l 15) (zR [zi 2 (-1)] (.ret)) (.skip))) (zR [zi 2 1] (.ret))) (.skip))) (.seq (zR [zm 16 0,zl 17 16,zc 18 .sub 17 1,zw 3 18] (.block 0 (.loop qU))) (zR [zi 2 0] (.ret))))
theorem aef:FT 218=some ⟨41,[0,1,4,5],[.var (.p 2)],Fj⟩:=by kernel_rfl
def yY:an:=.seq (zR [zm 22 6,zm 23 1,zl 24 23,zb 25 .lss 22 24] (.cond (.l 25) (.skip) (.exit 2))) (.seq (.block 3 (.seq (.draw [(zm 28 3,[]),(zm 29 4,[0]),(zm 30 6,[0,1]),(zb 31 .add 29 30,[0]),(za 32 1 28 31,[]),(zd 33 1 32,[]),(zm 34 0,[0,1,2,3,4,5]),(zm 35 4,[0,1,2,3,4,5,6]),(za 36 1 34 35,[0,1,2,3,4,5]),(zd 37 1 36,[0,1,2,3,4,5]),(zm 38 1,[0,1,2,3,4,5,6,7,8,9]),(zm 39 6,[0,1,2,3,4,5,6,7,8,9,10]),(za 40 1 38 39,[0,1,2,3,4,5,6,7,8,9]),(zd 41 1 40,[0,1,2,3,4,5,6,7,8,9]),(zb 42 .mul 37 41,[0,1,2,3,4,5]),(zb 43 .add 33 42,[]),(zm 44 5,[0,1,2,3,4,5,6,7,8,9,10,11,12,13,14,15]),(zb 45 .add 43 44,[]),(zw 7 45,[])]) (zR [zm 46 3,zm 47 4,zm 48 6,zb 49 .add 47 48,zm 50 7,zc 51 .rem 50 1000000000,za 52 1 46 49,zS 1 52 51] (.region [zm 53 7,zc 54 .quo 53 1000000000,zw 5 54])))) (.region [zm 26 6,zc 27 .add 26 1,zw 6 27]))
def yZ:an:=.seq (zR [zm 16 4,zm 17 0,zl 18 17,zb 19 .lss 16 18] (.cond (.l 19) (.skip) (.exit 0))) (.seq (.block 1 (zR [zi 5 0] (.seq (zR [zi 6 0] (.block 2 (.loop yY))) (.region [zm 55 3,zm 56 4,zm 57 1,zl 58 57,zb 59 .add 56 58,zm 60 3,zm 61 4,zm 62 1,zl 63 62,zb 64 .add 61 63,za 65 1 60 64,zd 66 1 65,zm 67 5,zb 68 .add 66 67,za 69 1 55 59,zS 1 69 68])))) (.region [zm 20 4,zc 21 .add 20 1,zw 4 21]))
def Fk:an:=zR [⟨.p 2,.mv (.c (.aa)),none⟩] (zR [zm 10 0,zl 11 10,zm 12 1,zl 13 12,zb 14 .add 11 13,⟨.l 15,.gA 3 1 8 [.iV (0)] (.l 14) (.l 14),none⟩,zw 3 15] (.seq (zR [zi 4 0] (.block 0 (.loop yZ))) (zR [zm 70 3,z1 71 242 70,zw 2 71] (.ret))))
theorem NM:FT 197=some ⟨72,[0,1,4,5,6,7,8,9],[.var (.p 2)],Fk⟩:=by kernel_rfl
def zh:an:=.seq (zR [zm 16 6,zc 17 .geq 16 0] (.cond (.l 17) (.skip) (.exit 0))) (.seq (.block 1 (zR [zm 20 5,zc 21 .mul 20 1000000000,zm 22 0,zm 23 6,za 24 1 22 23,zd 25 1 24,zb 26 .add 21 25,zw 7 26] (zR [zm 27 4,zm 28 6,zm 29 7,zm 30 1,zb 31 .quo 29 30,za 32 1 27 28,zS 1 32 31] (.region [zm 33 7,zm 34 1,zb 35 .rem 33 34,zw 5 35])))) (.region [zm 18 6,zc 19 .sub 18 1,zw 6 19]))
def NN:an:=zR [⟨.p 2,.mv (.c (.aa)),none⟩,zi 3 0] (zR [zm 10 0,zl 11 10,⟨.l 12,.gA 3 1 8 [.iV (0)] (.l 11) (.l 11),none⟩,zw 4 12] (zR [zi 5 0] (.seq (zR [zm 13 0,zl 14 13,zc 15 .sub 14 1,zw 6 15] (.block 0 (.loop zh))) (zR [zm 36 4,z1 37 242 36,zm 38 5,zw 2 37,zw 3 38] (.ret)))))
theorem aeg:FT 241=some ⟨39,[0,1,4,5,6,7,8,9],[.var (.p 2),.var (.p 3)],NN⟩:=by kernel_rfl
def tP:an:=.seq (.seq (.draw [(zm 42 6,[]),(zc 43 .geq 42 1000000000,[]),(zn 44 43,[]),(zg (zm 45 6) 44 false,[]),(zg (zm 46 1) 44 false,[3]),(zg (zm 47 4) 44 false,[3,4]),(zg (zc 48 .sub 47 2) 44 false,[3,4]),(zg (za 49 1 46 48) 44 false,[3]),(zg (zd 50 1 49) 44 false,[3]),(zg (zb 51 .mul 45 50) 44 false,[]),(zg (zm 52 7) 44 false,[3,4,5,6,7,8,9]),(zg (zc 53 .mul 52 1000000000) 44 false,[3,4,5,6,7,8,9]),(zg (zm 54 0) 44 false,[3,4,5,6,7,8,9,10,11]),(zg (zm 55 2) 44 false,[3,4,5,6,7,8,9,10,11,12]),(zg (zm 56 4) 44 false,[3,4,5,6,7,8,9,10,11,12,13]),(zg (zb 57 .add 55 56) 44 false,[3,4,5,6,7,8,9,10,11,12]),(zg (zc 58 .sub 57 2) 44 false,[3,4,5,6,7,8,9,10,11,12]),(zg (za 59 1 54 58) 44 false,[3,4,5,6,7,8,9,10,11]),(zg (zd 60 1 59) 44 false,[3,4,5,6,7,8,9,10,11]),(zg (zb 61 .add 53 60) 44 false,[3,4,5,6,7,8,9]),(zg (zb 62 .gtr 51 61) 44 false,[]),(zP 63 44 62,[])]) (.cond (.l 63) (.skip) (.exit 0))) (.block 1 (zR [zm 64 6,zc 65 .sub 64 1,zw 6 65] (zR [zm 66 7,zm 67 1,zm 68 4,zc 69 .sub 68 1,za 70 1 67 69,zd 71 1 70,zb 72 .add 66 71,zw 7 72] (zR [zm 73 7,zc 74 .geq 73 1000000000] (.cond (.l 74) (zR [zm 75 6,zw 3 75] (.ret)) (.skip))))))
def NO:an:=zR [zi 3 0] (zR [zm 11 1,zl 12 11,zw 4 12] (.seq (.draw [(zm 13 0,[]),(zm 14 2,[0]),(zm 15 4,[0,1]),(zb 16 .add 14 15,[0]),(za 17 1 13 16,[]),(zd 18 1 17,[]),(zc 19 .mul 18 1000000000,[]),(zm 20 0,[0,1,2,3,4,5,6]),(zm 21 2,[0,1,2,3,4,5,6,7]),(zm 22 4,[0,1,2,3,4,5,6,7,8]),(zb 23 .add 21 22,[0,1,2,3,4,5,6,7]),(zc 24 .sub 23 1,[0,1,2,3,4,5,6,7]),(za 25 1 20 24,[0,1,2,3,4,5,6]),(zd 26 1 25,[0,1,2,3,4,5,6]),(zb 27 .add 19 26,[]),(zw 5 27,[])]) (.seq (.draw [(zm 28 5,[]),(zm 29 1,[0]),(zm 30 4,[0,1]),(zc 31 .sub 30 1,[0,1]),(za 32 1 29 31,[0]),(zd 33 1 32,[0]),(zb 34 .quo 28 33,[]),(zm 35 5,[0,1,2,3,4,5,6]),(zm 36 1,[0,1,2,3,4,5,6,7]),(zm 37 4,[0,1,2,3,4,5,6,7,8]),(zc 38 .sub 37 1,[0,1,2,3,4,5,6,7,8]),(za 39 1 36 38,[0,1,2,3,4,5,6,7]),(zd 40 1 39,[0,1,2,3,4,5,6,7]),(zb 41 .rem 35 40,[0,1,2,3,4,5,6]),(zw 6 34,[7,8,9,10,11,12,13]),(zw 7 41,[])]) (.seq (.block 0 (.loop tP)) (zR [zm 76 6,zw 3 76] (.ret))))))
theorem aeh:FT 243=some ⟨77,[0,1,2,6,7,8,9,10],[.var (.p 3)],NO⟩:=by kernel_rfl
def NP:an:=zR [zi 2 0] (.seq (zR [zm 5 1,zm 6 0,zl 7 6,zb 8 .lss 5 7] (.cond (.l 8) (zR [zm 9 0,zm 10 1,za 11 1 9 10,zd 12 1 11,zw 2 12] (.ret)) (.skip))) (zR [zi 2 0] (.ret)))
theorem aei:FT 254=some ⟨13,[0,1,4],[.var (.p 2)],NP⟩:=by kernel_rfl
theorem NQ {s:ah}{i:Nat}(h:i<s.length):s.drop i=s[i]! :: s.drop (i+1):=by
 rw[List.drop_eq_getElem_cons h,getElem!_pos s i h]
def jE (s:ah):Bool:=(bD 47 s).2.isSome
def bX (s:ah):Nat:=(bD 47 s).1.length
theorem tQ (s:ah):bX s<=s.length:=tF 47 s
theorem aej (hft:M.FT=FT)(s:ah)(hl:s.length<1000000):aS M 153 [.str s] [] ⟨.iV (bX s),[],[]⟩:=by
 refine bC (by rw[hft];exact adZ) (by simp) ?_;have loop:∀(r i:Nat) (lo:List (Nat×AV)) (wr:List Nat) {Q:Ex->aq->Prop} (a1:AV),i+r=s.length->i+bX (s.drop i)=bX s ->
  (bX s<s.length->∀lo wr,Q .ret ⟨⟨[.str s,.iV (bX s),.iV (bX s)],lo,[],[]⟩,wr⟩) ->
  (bX s=s.length->∀lo wr,Q (.exit 0) ⟨⟨[.str s,a1,.iV s.length],lo,[],[]⟩,wr⟩) ->
  W M (.loop tI) ⟨⟨[.str s,a1,.iV i],lo,[],[]⟩,wr⟩ Q:=by
  intro r;induction r with
  | zero=>
   intro i lo wr Q a1 hi he h1 h2;obtain rfl:i=s.length:=by omega
   rw[List.drop_length]at he;have e0:bX ([]:ah)=0:=rfl;refine W.loop ?_;unfold tI;exact gg0
  | succ r ih=>
   intro i lo wr Q a1 hi he h1 h2;have hd:=NQ (s:=s) (i:=i) (by omega);refine W.loop ?_;by_cases h47:s[i]! = 47
   . have e1:bX (s.drop i)=0:=by rw[hd,h47];simp[bX,bD]
     have e2:bX s=i:=by omega
     have e47:((s[((i:Int)).toNat]!).toNat:Int)=47:=by rw[show s[((i:Int)).toNat]! = s[i]! from rfl,h47];rfl
     rw[e2]at h1;unfold tI;exact gg5
   . have e1:bX (s.drop i)=1+bX (s.drop (i+1)):=by
      rw[hd];simp only[bX,bD,if_neg h47,List.length_cons];omega
     have e47:((s[((i:Int)).toNat]!).toNat:Int)≠47:=fun e=>h47 (UInt8.toNat_inj.1 (by
                                                                                                  rw[show s[((i:Int)).toNat]! = s[i]! from rfl]at e;have:(47:UInt8).toNat=47:=rfl;omega))
     unfold tI;exact gg5
 unfold NF;simp only[enter];repeat' first|refine gc ?_|fail
 refine loop s.length 0 _ _ _ (by omega) (by simp) (fun h lo wr=>?_) (fun h lo wr=>?_)
 . repeat' first|refine gc ?_|fail
   all_goals exact⟨.inr rfl,rfl,_,rfl,rfl,rfl⟩
 . rw[h];repeat' first|refine gc ?_|fail
   all_goals exact⟨.inr rfl,rfl,_,rfl,rfl,rfl⟩
theorem aek (hft:M.FT=FT)(s:ah)(hl:s.length<1000000):aS M 204 [.str s] [] ⟨.bool (s.all bF),[],[]⟩:=by
 refine bC (by rw[hft];exact aeb) (by simp) ?_;have loop:∀(r i:Nat) (lo:List (Nat×AV)) (wr:List Nat) {Q:Ex->aq->Prop} (a1:AV),i+r=s.length->s.all bF=(s.drop i).all bF ->
  (s.all bF=false->∀lo wr a2,Q .ret ⟨⟨[.str s,.bool false,a2],lo,[],[]⟩,wr⟩) ->
  (s.all bF=true->∀lo wr a2,Q (.exit 0) ⟨⟨[.str s,a1,a2],lo,[],[]⟩,wr⟩) ->
  W M (.loop tK) ⟨⟨[.str s,a1,.iV i],lo,[],[]⟩,wr⟩ Q:=by
  intro r;induction r with
  | zero=>
   intro i lo wr Q a1 hi he h1 h2;obtain rfl:i=s.length:=by omega
   rw[List.drop_length]at he;refine W.loop ?_;unfold tK;exact gg0
  | succ r ih=>
   intro i lo wr Q a1 hi he h1 h2;have hd:=NQ (s:=s) (i:=i) (by omega);rw[hd,List.all_cons]at he;have ei:s[((i:Int)).toNat]! = s[i]! := rfl;refine W.loop ?_;cases hb:bF s[i]! with
   | false=>
    rw[hb,Bool.false_and]at he;have hne:¬(48<=(s[i]!).toNat/\(s[i]!).toNat<58):=fun h=>by rw[(kH _).2 h]at hb;cases hb
    rw[←ei]at hne;unfold tK;exact gg2
   | true=>
    rw[hb,Bool.true_and]at he;have hne:=(kH _).1 hb;rw[←ei]at hne;unfold tK;exact gg2
 unfold NG;simp only[enter];repeat' first|refine gc ?_|fail
 refine loop s.length 0 _ _ _ (by omega) (by simp) (fun h lo wr a2=>?_) (fun h lo wr a2=>?_)
 . rw[h];repeat' first|refine gc ?_|fail
   all_goals exact⟨.inr rfl,rfl,_,rfl,rfl,rfl⟩
 . rw[h];repeat' first|refine gc ?_|fail
   all_goals exact⟨.inr rfl,rfl,_,rfl,rfl,rfl⟩
theorem ael (hft:M.FT=FT)(s:ah)(hl:s.length<1000000)(q204:∀h,M.ext 204 [.str s] h=some ⟨.bool (s.all bF),h,[]⟩):aS M 154 [.str s] [] ⟨.bool (dW s),[],[]⟩:=by
 refine bC (by rw[hft];exact aea) (by simp) ?_;by_cases h0:s=[]
 . subst h0;have hl0:([]:ah).length=0:=rfl;rw[show dW []=false from rfl];unfold tJ;simp only[enter];exact gg6
 . have hpos:0<s.length:=List.length_pos_iff.2 h0;have ei:s[(0:Int).toNat]! = s[0]! := rfl;have hdec:dW s=(s.all bF && (decide (s[0]! ≠ 48) || decide (s=[48]))):=by rw[dW,decide_eq_true h0,Bool.true_and]
   by_cases h48:s[0]! = 48
   . have e48:((s[(0:Int).toNat]!).toNat:Int)=48:=by rw[ei,h48];rfl
     by_cases hl1:s.length=1
     . have hs:s=[48]:=by
        cases s with
        | nil=>exact absurd rfl h0
        | cons c t=>
         have:t=[]:=List.eq_nil_of_length_eq_zero (by simpa using hl1);subst this;have:c=48:=h48;rw[this]
       rw[hdec,decide_eq_true hs,Bool.or_true,Bool.and_true];unfold tJ;simp only[enter];exact gg1
     . have hs:¬s=[48]:=fun e=>hl1 (by rw[e];rfl)
       rw[hdec,decide_eq_false hs,decide_eq_false (by simpa using h48),Bool.or_self,Bool.and_false];unfold tJ;simp only[enter];exact gg1
   . have e48:((s[(0:Int).toNat]!).toNat:Int)≠48:=fun e=>h48 (UInt8.toNat_inj.1 (by rw[ei]at e;have:(48:UInt8).toNat=48:=rfl;omega))
     rw[hdec,decide_eq_true (show s[0]! ≠ 48 from h48),Bool.true_or,Bool.and_true];unfold tJ;simp only[enter];exact gg1
theorem aem {s:ah}(h:s.all bF=true)(hl:s.length<=18)(i:Nat)(hi:i<=s.length):az 0 (s.take i)<1000000000000000000:=by
 refine MR ?_ (by rw[List.length_take];omega);rw[List.all_eq_true]at h ⊢;exact fun x hx=>h x (List.mem_of_mem_take hx)
theorem aen (hft:M.FT=FT)(s:ah)(hl:s.length<=18)(hd:s.all bF=true):aS M 192 [.str s] [] ⟨.iV (az 0 s:Nat),[],[]⟩:=by
 refine bC (by rw[hft];exact aed) (by simp) ?_;have loop:∀(r i:Nat) (lo:List (Nat×AV)) (wr:List Nat) {Q:Ex->aq->Prop} (a1:AV),i+r=s.length ->
  (∀lo wr,Q (.exit 0) ⟨⟨[.str s,a1,.iV (az 0 s:Nat),.iV s.length],lo,[],[]⟩,wr⟩) ->
  W M (.loop yR) ⟨⟨[.str s,a1,.iV (az 0 (s.take i):Nat),.iV i],lo,[],[]⟩,wr⟩ Q:=by
  intro r;induction r with
  | zero=>
   intro i lo wr Q a1 hi hQ;obtain rfl:i=s.length:=by omega
   rw[List.take_length];refine W.loop ?_;unfold yR;exact gg0
  | succ r ih=>
   intro i lo wr Q a1 hi hQ;have wu:=aem hd hl (i+1) (by omega);have hb:=(kH _).1 ((List.all_eq_true.1 hd) s[i]! (by rw[getElem!_pos s i (by omega)];exact List.getElem_mem (by omega)));have e1:az 0 (s.take (i+1))=10*az 0 (s.take i)+((s[i]!).toNat-48):=by
    rw[List.take_add_one,List.getElem?_eq_getElem (by omega),Option.toList_some,oM,tn,getElem!_pos s i (by omega)]
   have ei:s[((i:Int)).toNat]! = s[i]! := rfl;rw[←ei]at hb e1;have ih':=ih (i+1);generalize az 0 (s.take (i+1))=m at *
   generalize az 0 (s.take i)=n at *
   have e2:(m:Int)=10*n+((s[((i:Int)).toNat]!).toNat:Int)-48:=by omega
   rw[e2]at ih';refine W.loop ?_;unfold yR;exact gg0
 unfold NJ;simp only[enter];repeat' first|refine gc ?_|fail
 refine loop s.length 0 _ _ _ (by omega) (fun lo wr=>?_);repeat' first|refine gc ?_|fail
 all_goals exact⟨.inr rfl,rfl,_,rfl,rfl,rfl⟩
variable {c1 c2:Option Nat}
abbrev iC (x:Int):List AV:=[.iV x]
abbrev al (l:List Int):List AV:=arr iC l
abbrev dB:Int:=1000000000
theorem NR {l:List Int}:(al l).length=l.length:=by
 have:=qc (f:=iC) (esz:=1) (fun _=>rfl) l;simpa using this
theorem aeo {l:List Int}{m:Nat}(h:m<l.length):(al l)[m]? = some (.iV l[m]!):=by
 induction l generalizing m with
 | nil=>simp at h
 | cons x l ih=>
  cases m with
  | zero=>rfl
  | succ m=>
   have e:(x::l)[m+1]! = l[m]! := by simp[List.getElem!_eq_getElem?_getD]
   rw[e,←ih (by simpa using h)];rfl
section
variable {t b m:Nat} {x y:aN} {l:List aT} {pe:List AV} {lo:List (Nat×AV)} {hp:ab} {df wr:List Nat} {L:List Int} {e:TypeId} {v:Int} {Q:aq->Prop}
theorem aiS (hx:(St.mk pe lo hp df).ae x=some (.ptr b m))(hb:hp.at b=some (.cells (al L) e))(hi:m<L.length)
 (h:WO M l ⟨⟨pe,(t,.iV L[m]!)::lo,hp,df⟩,wr⟩ Q):WO M (⟨.l t,.load 1 false x,none⟩::l) ⟨⟨pe,lo,hp,df⟩,wr⟩ Q:=by
 refine ahZ (c:=al L) (o:=m) (e:=e) (v:=.iV L[m]!) hx hb ?_ h;have h1:=aeo hi;have h2:m<(al L).length:=by rw[NR];exact hi
 rw[List.drop_eq_getElem_cons h2];rw[List.getElem?_eq_getElem h2]at h1;rw[Option.some.inj h1];rfl
theorem aep {L:List Int}{m:Nat}{v:Int}(h:m<L.length):overwrite (al L) m (iC v)=al (L.set m v):=by
 induction L generalizing m with
 | nil=>simp at h
 | cons x L ih=>
  cases m with
  | zero=>simp[overwrite,arr]
  | succ m=>
   have:=ih (m:=m) (by simpa using h);simp only[List.set_cons_succ];have e1:al (x::L) = .iV x::al L:=rfl;have e2:al (x::L.set m v) = .iV x::al (L.set m v):=rfl;rw[e1,e2,←this];simp[overwrite]
theorem aiF (hx:(St.mk pe lo hp df).ae x=some (.ptr b m))(hy:(St.mk pe lo hp df).ae y=some (.iV v))(hb:hp.at b=some (.cells (al L) e))(hi:m<L.length)
 (h:WO M l ⟨⟨pe,lo,hp.put b (some (.cells (al (L.set m v)) e)),df⟩,b::wr⟩ Q):WO M (⟨.no,.store 1 x y,none⟩::l) ⟨⟨pe,lo,hp,df⟩,wr⟩ Q:=
 adX (c:=al L) (new:=iC v) hx (by rw[hy];rfl) hb ⟨rfl,by rw[NR];omega,rfl⟩ (aep hi) h
end
def cJ (hp:ab)(b:Nat)(e:TypeId)(P S X:List Int):ab:=hp.put b (some (.cells (al (P++X++S)) e))
theorem NS {hp:ab}{b:Nat}{e:TypeId}{P S X:List Int}:(cJ hp b e P S X).length=hp.length:=eH
section
variable {t bu bv m:Nat} {x y:aN} {l:List aT} {pe:List AV} {lo:List (Nat×AV)} {hp:ab} {df wr:List Nat} {P S X V Y:List Int} {e e':TypeId} {v:Int} {Q:aq->Prop}
theorem ajv {i:Nat}(hx:(St.mk pe lo (cJ hp bu e P S X) df).ae x=some (.ptr bu m))(hl:bu<hp.length)(hi:i<X.length)(hm:m=P.length+i)
 (h:WO M l ⟨⟨pe,(t,.iV X[i]!)::lo,cJ hp bu e P S X,df⟩,wr⟩ Q):WO M (⟨.l t,.load 1 false x,none⟩::l) ⟨⟨pe,lo,cJ hp bu e P S X,df⟩,wr⟩ Q:=by
 subst hm;refine aiS (L:=P++X++S) (e:=e) hx (by unfold cJ;exact fx hl) (by simp;omega) ?_;rw[Dg hi];exact h
theorem ajw {i:Nat}(hx:(St.mk pe lo (cJ hp bu e P S X) df).ae x=some (.ptr bu m))(hy:(St.mk pe lo (cJ hp bu e P S X) df).ae y=some (.iV v))(hl:bu<hp.length)(hi:i<X.length)(hm:m=P.length+i)
 (h:WO M l ⟨⟨pe,lo,cJ hp bu e P S (X.set i v),df⟩,bu::wr⟩ Q):WO M (⟨.no,.store 1 x y,none⟩::l) ⟨⟨pe,lo,cJ hp bu e P S X,df⟩,wr⟩ Q:=by
 subst hm;refine aiF (L:=P++X++S) (e:=e) hx hy (by unfold cJ;exact fx hl) (by simp;omega) ?_;rw[JU hi];have:ab.put (cJ hp bu e P S X) bu (some (.cells (al (P++X.set i v++S)) e))=cJ hp bu e P S (X.set i v):=by unfold cJ;exact IM
 rw[this];exact h
end
def gm (v:AV)(hh:ab)(r:List Int):Prop:=∃v1,ik hh v v1/\v1.top=0/\bU v1 = .vs (al r) r.length none
theorem Fl (l:List Int):dO (al l)=al l:=Ci (fun _=>rfl) l
theorem fm (l:List Int):bh (al l)=0:=jQ (fun _=>rfl) l
theorem gm.trim {b:Nat}{L:List Int}{e:TypeId}{hp:ab}{n:Nat}(hb:hp.at b=some (.cells (al L) e))(hn:n<=L.length):gm (bz b (aP (L.take n)) cap) (if (aU [bz b (aP (L.take n)) cap]).top<=0 then [] else hp) (L.take (aP (L.take n))):=by
 have hle:=im (l:=L.take n);rw[List.length_take]at hle;obtain⟨k,hk⟩:∃k,k=aP (L.take n):=⟨_,rfl⟩;rw[←hk]at hle ⊢;by_cases h0:0<k
 . have e1:bz b k cap = .sl b 0 k 1 cap:=if_pos h0;rw[e1,if_neg (by simp[aU,AV.top])];have hl:(L.take k).length=k:=by rw[List.length_take];omega
   have hF:Fr hp [b] (.sl b 0 k 1 cap) (.vs (al (L.take k)) k none):=by
    refine .sl (m:=al (L.take k)) (List.mem_singleton.2 rfl) hb ?_ rfl (fun i x y hx hy=>?_) (.inr rfl)
    . have:=ku (f:=iC) (esz:=1) (fun _=>rfl) (l:=L) (i:=0) (n:=k) (by omega);simpa using this
    . rw[hx]at hy;cases hy;exact .same (cB (fm _) hx)
   unfold gm;rw[hl];refine⟨_,⟨[b],hF,rfl,fun c l' e' hc hl'=>?_⟩,fm _,by rw[bU,Fl]⟩;rw[List.mem_singleton.1 hc,hb]at hl';cases hl';exact nZ (fun _=>rfl) _
 . obtain rfl:k=0:=by omega
   exact⟨.vs [] 0 cap,.same rfl rfl,rfl,rfl⟩
def zj (M:aw)(g:Nat)(ars:List AV)(z:Int):Prop:=∃r:List Int,(okW dB r/\aM r/\WV dB r=z)/\∃v hh,gm v hh r/\aS M g ars [] ⟨v,hh,[]⟩
theorem Fm {f N:Nat}{aO:List Nat}{res:List fa}{body:an}{ars:List AV}{z:Int}(hft:M.FT f=some ⟨N,aO,res,body⟩)(hN:ars.length<=N)
 (h:W M body ⟨⟨aO.map (fun t=>(ars[t]?).getD cm),[],[],[]⟩,[]⟩ fun e s=>(e = .normal\/e = .ret)/\s.s.bO=[]/\∃vs,cX s.s res=some vs/\∃r:List Int,(okW dB r/\aM r/\WV dB r=z)/\gm (aU vs) (if (aU vs).top<=0 then [] else s.s.hp) r):zj M f ars z:=by
 obtain⟨v,hh,⟨r,hr,ho⟩,h2⟩:=gH (P:=fun v hh=>∃r:List Int,(okW dB r/\aM r/\WV dB r=z)/\gm v hh r) hft hN h;exact⟨r,hr,v,hh,ho,h2⟩
theorem ph {L:List Int}(ok:okW dB L):okW dB (L.take (aP L))/\aM (L.take (aP L))/\WV dB (L.take (aP L))=WV dB L:=⟨di ok _,De,wM⟩
def cz (x:AV)(l:List Int):Prop:=x = .vs (al l) l.length none\/(x = .aa/\l=[])
def jF (v:AV)(hh:ab)(q r:List Int):Prop:=∃v1 x y,eu hh v v1/\v1.top=0/\bG v1 = .au [x,y]/\cz x q/\cz y r
theorem pj (l:List Int):cA (al l)=al l:=wq (fun _=>rfl) l
theorem Fo {b:Nat}{L:List Int}{e:TypeId}{hp:ab}{n:Nat}(hb:hp.at b=some (.cells (al L) e))(hn:n<=L.length)(hh:ab)(he:(bz b (aP (L.take n)) cap).top≠0->hh=hp) :
 ∃v1,eu hh (bz b (aP (L.take n)) cap) v1/\v1.top=0/\bG v1 = .vs (al (L.take (aP (L.take n)))) (L.take (aP (L.take n))).length none:=by
 have hle:=im (l:=L.take n);rw[List.length_take]at hle;obtain⟨k,hk⟩:∃k,k=aP (L.take n):=⟨_,rfl⟩;rw[←hk]at hle he ⊢;by_cases h0:0<k
 . have e1:bz b k cap = .sl b 0 k 1 cap:=if_pos h0;rw[e1]at he ⊢;obtain rfl:=he (by simp[AV.top]);have hl:(L.take k).length=k:=by rw[List.length_take];omega
   have hF:eu hh (.sl b 0 k 1 cap) (.vs (al (L.take k)) k none):=by
    refine .sl (m:=al (L.take k)) hb ?_ rfl (fun i x y hx hy=>?_)
    . have:=ku (f:=iC) (esz:=1) (fun _=>rfl) (l:=L) (i:=0) (n:=k) (by omega);simpa using this
    . rw[hx]at hy;cases hy;exact .same (cB (fm _) hx)
   rw[hl];exact⟨_,hF,fm _,by rw[bG,pj]⟩
 . obtain rfl:k=0:=by omega
   exact⟨.vs [] 0 cap,.same rfl,rfl,rfl⟩
theorem jF.less {hh:ab}{l:List Int}:jF (aU [.aa,.vs (al l) l.length cap]) hh [] l:=by
 have ht:(aU [.aa,.vs (al l) l.length cap]).top=0:=by simp[aU,AV.top,bh,fm l]
 refine⟨aU [.aa,.vs (al l) l.length cap],.aa,.vs (al l) l.length none,.same ht,ht,?_,.inr ⟨rfl,rfl⟩,.inl rfl⟩;simp only[aU,bG,cA,pj l]
def NT (M:aw)(g:Nat)(ars:List AV)(x y:Int):Prop:=∃q r:List Int,(okW dB q/\aM q/\WV dB q=x/y)/\(okW dB r/\aM r/\WV dB r=x%y)/\∃v hh,jF v hh q r/\aS M g ars [] ⟨v,hh,[]⟩
theorem aeq {f N:Nat}{aO:List Nat}{res:List fa}{body:an}{ars:List AV}{x y:Int}(hft:M.FT f=some ⟨N,aO,res,body⟩)(hN:ars.length<=N)
 (h:W M body ⟨⟨aO.map (fun t=>(ars[t]?).getD cm),[],[],[]⟩,[]⟩ fun e s=>(e = .normal\/e = .ret)/\s.s.bO=[]/\∃vs,cX s.s res=some vs/\∃q r:List Int,(okW dB q/\aM q/\WV dB q=x/y)/\(okW dB r/\aM r/\WV dB r=x%y)/\jF (aU vs) (if (aU vs).top<=0 then [] else s.s.hp) q r):NT M f ars x y:=by
 obtain⟨v,hh,⟨q,r,hq,hr,ho⟩,h2⟩:=gH (P:=fun v hh=>∃q r:List Int,(okW dB q/\aM q/\WV dB q=x/y)/\(okW dB r/\aM r/\WV dB r=x%y)/\jF v hh q r) hft hN h;exact⟨q,r,hq,hr,v,hh,ho,h2⟩
theorem tS {b:Nat}:bz b 0 cap = .vs [] 0 cap:=if_neg (by omega)
theorem NU {b r:Nat}:bz b (r+1) cap = .sl b 0 (r+1) 1 cap:=if_pos (by omega)
theorem aer (hft:M.FT=FT){b n:Nat}{L:List Int}{e:TypeId}{hp:ab}(hb:hp.at b=some (.cells (al L) e))(hn:n<=L.length)(hl:n<1000000000)(hc:∀c,cap=some c->n<=c) :
 aS M 242 [bz b n cap] hp ⟨bz b (aP (L.take n)) cap,hp,[]⟩:=by
 have hbl:=eM hb;refine lF (by rw[hft];exact yT) (by simp) (by unfold bz;split <;> simp[AV.top,bh];omega) ?_;have loop:∀(r:Nat) (lo:List (Nat×AV)) (a1:AV) {Q:Ex->aq->Prop},r<=n->aP (L.take r)=aP (L.take n)->(∀lo,Q (.exit 0) ⟨⟨[bz b (aP (L.take n)) cap,a1],lo,hp,[]⟩,[]⟩)->W M (.loop jD) ⟨⟨[bz b r cap,a1],lo,hp,[]⟩,[]⟩ Q:=by
  intro r;induction r with
  | zero=>
   intro lo a1 Q hr he hQ;have e0:aP (L.take n)=0:=by rw[←he];rfl
   rw[e0,tS]at hQ;rw[tS];refine W.loop ?_;unfold jD;exact gg3
  | succ r ih=>
   intro lo a1 Q hr he hQ;have e:=oz (l:=L) (i:=r) (by omega);have ei:0+((((r+1:Nat):Int)-1).toNat)*1=r:=by omega
   have er:((r+1:Nat):Int)-1=r:=by omega
   rw[NU];refine W.loop ?_;by_cases h0:L[r]! = 0
   . rw[if_pos h0]at e;unfold jD;exact gg6
   . rw[if_neg h0]at e;have e2:aP (L.take n)=r+1:=by rw[←he,e]
     rw[e2,NU]at hQ;unfold jD;exact gg6
 unfold tN;simp only[enter];repeat' first|refine gc ?_|fail
 refine loop n _ _ (Nat.le_refl _) rfl (fun lo=>?_);repeat' first|refine gc ?_|fail
 exact⟨.inr rfl,rfl,⟨[],by simp⟩,by simp,_,rfl,rfl⟩
theorem pk (hft:M.FT=FT)(dP:∀ars h,M.ext 242 ars h=none){b n:Nat}{L:List Int}{e:TypeId}{hp:ab}(hb:hp.at b=some (.cells (al L) e))(h0:0<n)(hn:n<=L.length)(hl:n<1000000000)(hc:∀c,cap=some c->n<=c) :
 CT M (ir 242) [.sl b 0 n 1 cap] hp ⟨bz b (aP (L.take n)) cap,hp,[]⟩:=by
 have h:=aer (cap:=cap) hft hb hn hl hc;rw[show bz b n cap = .sl b 0 n 1 cap from if_pos h0]at h;exact CT.run (fi:=[]) (ca:=[]) (dP _ _) h
theorem NV {b n:Nat}:bz b n cap = .sl b 0 n 1 cap\/bz b n cap = .vs [] 0 cap/\n=0:=by
 rcases Nat.eq_zero_or_pos n with rfl|h
 . exact .inr ⟨tS,rfl⟩
 . exact .inl (if_pos h)
theorem uH {st:St}{i b:Nat}{x y:AV}{e:TypeId}(h1:st.pe[i]? = some (.ptr b 0))(h2:st.hp.at b=some (.cells [x,y] e)):cX st [.cell 2 true (.p i)]=some [.agg [x,y]]:=by
 simp only[cX,St.ae,h1,Option.bind_some,fo,h2,List.drop];rfl
theorem NW (hft:M.FT=FT)(dP:∀ars h,M.ext 242 ars h=none){b n:Nat}{L:List Int}{e:TypeId}{hp:ab}(neg:Bool)(hb:hp.at b=some (.cells (al L) e))(h0:0<n)(hn:n<=L.length)(hl:n<1000000000)(hc:∀c,cap=some c->n<=c) :
 aS M 196 [.bool neg,.sl b 0 n 1 cap] hp ⟨.agg [.bool (neg && decide (0<aP (L.take n))),bz b (aP (L.take n)) cap],hp,[]⟩:=by
 have hbl:=eM hb;have q:=pk (cap:=cap) hft dP (hp:=hp++[some (.cells [.bool false,.aa] 162)]) (dL hb) h0 hn hl hc;have ht:aP (L.take n)<=n:=by have:=im (l:=L.take n);rw[List.length_take]at this;omega
 obtain⟨k,hk⟩:∃k,k=aP (L.take n):=⟨_,rfl⟩;rw[←hk]at q ht ⊢;refine lF (by rw[hft];exact yS) (by simp) (by rcases NV (cap:=cap) (b:=b) (n:=k) with h|⟨h,_⟩ <;> rw[h] <;> simp[AV.top,bh] <;> omega) ?_;unfold tM;simp only[enter];rcases NV (cap:=cap) (b:=b) (n:=k) with h|⟨h,h1⟩
 . rw[h]at q ⊢;by_cases hk0:0<k
   . rw[decide_eq_true hk0,Bool.and_true];cases neg;all_goals
     . exact gg3
   . exfalso;have:k=0:=by omega
     rw[this,tS]at h;cases h
 . rw[h]at q ⊢;subst h1;rw[decide_eq_false (by omega),Bool.and_false];cases neg;all_goals
   . exact gg3
def bQ (v:AV)(z:Int):Prop:=∃neg x l,v = .agg [.bool neg,x]/\cz x l/\okW dB l/\aM l/\z=(if neg then -WV dB l else WV dB l)/\(neg=true->l≠[])
def jk (v:AV)(z:Int):Prop:=∃neg l,v = .agg [.bool neg,.vs (al l) l.length none]/\okW dB l/\aM l/\z=(if neg then -WV dB l else WV dB l)/\(neg=true->l≠[])
theorem jk.tT {v:AV}{z:Int}(h:jk v z):bQ v z:=by
 obtain⟨neg,l,h1,h2,h3,h4,h5⟩:=h;exact⟨neg,_,l,h1,.inl rfl,h2,h3,h4,h5⟩
theorem NX (n:Nat):((10^(9*n):Nat):Int)=dB^n:=by
 rw[Nat.pow_mul];exact Int.natCast_pow _ _
theorem aes {t x:ah}(hx:x.length=9):az 0 (t++x)=az 0 t*1000000000+az 0 x:=by
 rw[oM,xU,hx]
structure Fp (M:aw):Prop where
 ft:M.FT=FT
 dP:∀ars h,M.ext 242 ars h=none
 tW:∀ars h,M.ext 196 ars h=none
 pn:∀(s:ah) h,s.length<=18->s.all bF=true->M.ext 192 [.str s] h=some ⟨.iV (az 0 s:Nat),h,[]⟩
theorem NY {K:ab}{c:Nat}{L:List Int}{neg:Bool}(hc:K.at c=some (.cells (al L) 3))(oL:okW dB L) :
 ∃v0,jk v0 (if neg then -WV dB L else WV dB L)/\ew (.agg [.bool (neg && decide (0<aP (L.take L.length))),bz c (aP (L.take L.length)) none]) (if (AV.agg [.bool (neg && decide (0<aP (L.take L.length))),bz c (aP (L.take L.length)) none]).top<=0 then [] else K) v0:=by
 obtain⟨v1,f1,t1,k1⟩:=Fo (cap:=none) hc (Nat.le_refl L.length) (if (AV.agg [.bool (neg && decide (0<aP (L.take L.length))),bz c (aP (L.take L.length)) none]).top<=0 then [] else K) (fun h=>by
  rw[if_neg];intro h2;apply h;have:(AV.agg [.bool (neg && decide (0<aP (L.take L.length))),bz c (aP (L.take L.length)) none]).top=max 0 (max (bz c (aP (L.take L.length)) none).top 0):=rfl;omega)
 obtain⟨g1,g2,g3⟩:=ph oL;rw[List.take_length]at k1 f1 ⊢;refine⟨.agg [.bool (neg && decide (0<aP L)),.vs (al (L.take (aP L))) (L.take (aP L)).length none],⟨_,_,rfl,g1,g2,?_,?_⟩,.agg [.bool (neg && decide (0<aP L)),v1],.agg rfl (fun i a b ha hb=>?_),?_,?_⟩
 . rw[g3];cases neg with
   | false=>rfl
   | true=>
    by_cases h0:0<aP L
    . rw[decide_eq_true h0];rfl
    . rw[decide_eq_false h0];have:WV dB L=0:=by rw[←g3,show aP L=0 by omega];rfl
      rw[this];rfl
 . intro h e;rw[Bool.and_eq_true,decide_eq_true_eq]at h;have:=congrArg List.length e;have hle:=im (l:=L);rw[List.length_take,List.length_nil]at this;omega
 . match i with
   | 0=>cases ha;cases hb;exact .same rfl
   | 1=>cases ha;cases hb;exact f1
   | i+2=>cases ha
 . simp[AV.top,bh,t1]
 . simp only[bG,cA,k1]
theorem aet (C:Fp M){Q:Ex->aq->Prop}(full:ah)(hD:full.all bF=true)(hl:full.length<1000000)(a2:AV)
 (hQ:∀t acc o K lo wr,t.length<=9->t.all bF=true->okW dB acc->acc.length<1000000->(az 0 full:Int)=az 0 t*dB^acc.length+WV dB acc->bS iC 1 3 K o acc [0]->K.at 0=some (.cells [.bool false,.aa] 162)->Q (.exit 0) ⟨⟨[.str t,.ptr 0 0,a2,o],lo,K,[]⟩,wr⟩)
 (lo:List (Nat×AV)) (wr:List Nat) (K:ab) (hK:K.at 0=some (.cells [.bool false,.aa] 162)) :
 W M (.loop tL) ⟨⟨[.str full,.ptr 0 0,a2,.aa],lo,K,[]⟩,wr⟩ Q:=by
 refine W.fV (fun m st=>∃t acc o K lo wr,st=⟨⟨[.str t,.ptr 0 0,a2,o],lo,K,[]⟩,wr⟩/\t.length=m/\t.all bF=true/\okW dB acc/\acc.length*9+t.length<=full.length/\(az 0 full:Int)=az 0 t*dB^acc.length+WV dB acc/\bS iC 1 3 K o acc [0]/\K.at 0=some (.cells [.bool false,.aa] 162))
  (fun m st ⟨t,acc,o,K,lo,wr,hst,hm,hDt,oA,hln,hv,ho,hK⟩=>?_) (m:=full.length) ⟨full,[],.aa,K,lo,wr,rfl,rfl,hD,ix,by simp,by simp[WV],.mJ,hK⟩
 subst hst;by_cases h9:t.length<=9
 . unfold tL;exact gg3
 . obtain⟨x,y,hxy,hxl⟩:∃x y,t=x++y/\y.length=9:=⟨t.take (t.length-9),t.drop (t.length-9),(List.take_append_drop _ t).symm,by rw[List.length_drop];omega⟩;have htl:t.length=x.length+9:=by rw[hxy,List.length_append,hxl]
   have hDx:x.all bF=true:=by rw[hxy,List.all_append,Bool.and_eq_true]at hDt;exact hDt.1
   have hDy:y.all bF=true:=by rw[hxy,List.all_append,Bool.and_eq_true]at hDt;exact hDt.2
   have q192:=fun h=>C.pn y h (by omega) hDy
   have hylt:az 0 y<1000000000:=by have:=mW y hDy;rw[hxl]at this;exact this
   have edr:t.drop ((t.length:Int)-9).toNat=y:=by rw[show ((t.length:Int)-9).toNat=x.length by omega,hxy,List.drop_left]
   have etk:t.take ((t.length:Int)-9).toNat=x:=by rw[show ((t.length:Int)-9).toNat=x.length by omega,hxy,List.take_left]
   have hroom:(acc.length+1)*8<=dv:=by unfold dv;omega
   have hK1:=eM hK;unfold tL;repeat' first|(apply agq (s:=t) (r:=y);rfl;rfl;omega;exact edr)|(apply agv (s:=t) (r:=x);rfl;rfl;omega;exact etk)|(refine bS.app (f:=iC) (m:=[(az 0 y:Int)]) (S:=[0]) (fun _=>rfl) (fun _=>rfl) (by decide) (ho.grow [_]) (by simp) rfl rfl (Sl.iJ (f:=iC) (esz:=1) (l:=[(az 0 y:Int)]) (e:=3) (fun _=>rfl) cU rfl) hroom (fun H w' o' ho' hk hlen=>?_))|(apply acs;rfl;rfl)|refine gd0 ?_|refine gc ?_|(intro _;omega)|intro _
   all_goals try omega
   all_goals exact cN ⟨x.length,by omega,x,acc++[(az 0 y:Int)],o',H,_,_,rfl,rfl,hDx,jq oA (fun z hz=>by rw[List.mem_singleton.1 hz];exact⟨by omega,by show _<(1000000000:Int);omega⟩),by rw[List.length_append,List.length_singleton];omega,by
    rw[hv,hxy,aes hxl,List.length_append,List.length_singleton,Int.pow_succ,fK];rw[Int.natCast_add,Int.natCast_mul];have:WV dB [(az 0 y:Int)]=az 0 y:=by simp[WV]
    rw[this];show ((az 0 x:Int)*1000000000+az 0 y)*dB^acc.length+WV dB acc=az 0 x*(dB^acc.length*1000000000)+(WV dB acc+dB^acc.length*az 0 y);grind,ho',hk 0 _ (by simp) (dL hK)⟩
theorem aeu (C:Fp M)(s:ah)(hl:s.length<1000000)(hD:(bH 45 s).all bF=true):∃v0,jk v0 (if preB 45 s then -(az 0 (bH 45 s):Int) else (az 0 (bH 45 s):Nat))/\cD M 193 [.str s] v0:=by
 have hcl:=qP 45 s;obtain⟨v',hh,⟨v0,h0,ho⟩,hr⟩:=gH (M:=M) (f:=193) (ars:=[.str s]) (P:=fun v hh=>∃v0,jk v0 (if preB 45 s then -(az 0 (bH 45 s):Int) else (az 0 (bH 45 s):Nat))/\ew v hh v0) (by rw[C.ft];exact aec) (by simp) (by
  have main:∀(neg:Bool) (lo:List (Nat×AV)) (wr:List Nat) {Q:Ex->aq->Prop},(∀e st,((e = .normal\/e = .ret)/\st.s.bO=[]/\∃vs,cX st.s [.cell 2 true (.p 1)]=some vs/\∃v0,jk v0 (if neg then -(az 0 (bH 45 s):Int) else (az 0 (bH 45 s):Nat))/\ew (aU vs) (if (aU vs).top<=0 then [] else st.s.hp) v0)->Q e st) ->
   W M (.loop tL) ⟨⟨[.str (bH 45 s),.ptr 0 0,.bool neg,.aa],lo,[some (.cells [.bool false,.aa] 162)],[]⟩,wr⟩ (BQ 0 (SQ M (zR [zm 33 2,
    zm 34 3,
    zm 35 0,
    z1 36 192 35,
    ⟨(.l 37),.dQ 3 1 1 [.iV (0)] [(0,1,(.l 36))],none⟩,
    ⟨(.l 38),.append 3 1 8 (.l 34) (.l 37),none⟩,
    z2 39 196 33 38,
    zs 2 1 39]
     (.ret)) Q)):=by
   intro neg lo wr Q hQ;refine aet C (bH 45 s) hD (by omega) _ (fun t acc o K lo wr ht hDt oA hacc hv ho hK=>?_) _ _ _ rfl;have q192:=fun h=>C.pn t h (by omega) hDt
   have htlt:az 0 t<1000000000:=by
    have h1:=mW t hDt;exact Nat.lt_of_lt_of_le h1 (Nat.le_trans (Nat.pow_le_pow_right (by decide) ht) (by decide))
   have hroom:(acc.length+1)*8<=dv:=by unfold dv;omega
   have hK1:=eM hK;repeat' first|(refine bS.app (f:=iC) (m:=[(az 0 t:Int)]) (S:=[0]) (fun _=>rfl) (fun _=>rfl) (by decide) (ho.grow [_]) (by simp) rfl rfl (Sl.iJ (f:=iC) (esz:=1) (l:=[(az 0 t:Int)]) (e:=3) (fun _=>rfl) cU rfl) hroom (fun H w' o' ho' hk hlen=>?_))|refine gd0 ?_|refine gc ?_|fail
   rcases ho' with ⟨h1,_⟩|⟨c,cp,hc0,rfl,hc,hcap⟩
   . simp at h1
   obtain rfl:cp=none:=hcap.resolve_right fun h=>by simp at h
   have oL:okW dB (acc++[(az 0 t:Int)]):=jq oA (fun z hz=>by rw[List.mem_singleton.1 hz];exact⟨by omega,by show _<(1000000000:Int);omega⟩);have vL:WV dB (acc++[(az 0 t:Int)])=(az 0 (bH 45 s):Int):=by
    rw[hv,fK];have:WV dB [(az 0 t:Int)]=az 0 t:=by simp[WV]
    rw[this];grind
   have h0':H.at 0=some (.cells [.bool false,.aa] 162):=hk 0 _ (by simp) (dL hK);have hcn:c≠0:=fun e=>hc0 (by simp[e])
   obtain⟨L,hL⟩:∃L,L=acc++[(az 0 t:Int)]:=⟨_,rfl⟩;rw[←hL]at oL vL hc;have hLl:(acc++[(az 0 t:Int)]).length=L.length:=by rw[hL]
   rw[hLl];have hLn:0<L.length/\L.length<1000001:=by rw[hL,List.length_append,List.length_singleton];omega
   have q196:=CT.run (fi:=[]) (ca:=[]) (ars:=[.bool neg,.sl c 0 L.length 1 none]) (C.tW _ _) (NW (cap:=none) C.ft C.dP neg hc hLn.1 (Nat.le_refl _) (by omega) (fun _ h=>by cases h));obtain⟨v0,k0,o0⟩:=NY (K:=H.put 0 (some (.cells [.bool (neg && decide (0<aP (L.take L.length))),bz c (aP (L.take L.length)) none] 162))) (neg:=neg) (qe hcn hc) oL;rw[vL]at k0;have hone:cG (bz c (aP (L.take L.length)) none)=true:=by unfold bz;split <;> rfl
   repeat' first|(apply adX;rfl;rfl;exact h0';exact⟨rfl,Nat.le_refl _,by rw[List.all_cons,List.all_cons,List.all_nil,hone];rfl⟩;rfl)|(apply aeT;rfl;rfl;first|exact q196)|refine gc ?_|fail
   refine hQ _ _ ⟨.inr rfl,rfl,_,uH rfl (fx (eM h0')),v0,k0,o0⟩
  unfold NI;simp only[enter];cases hp:preB 45 s with
  | true=>
   obtain⟨h1,h2⟩:=tA hp;have h1:s.drop (1:Int).toNat=bH 45 s:=h1;have e0:s[0]! = 45:=by
    have h:=of_decide_eq_true hp;cases s with
    | nil=>simp at h
    | cons c t=>simp at h;exact h
   have e45:((s[(0:Int).toNat]!).toNat:Int)=45:=by rw[show s[(0:Int).toNat]! = s[0]! from rfl,e0];rfl
   exact gg6
  | false=>
   have e1:=jZ hp;rw[e1]at main;by_cases h0:s.length=0
   . exact gg3
   . have e45:((s[(0:Int).toNat]!).toNat:Int)≠45:=fun e=>by
      have h:=of_decide_eq_false hp;cases s with
      | nil=>exact h0 rfl
      | cons c t=>
       refine h (congrArg some (UInt8.toNat_inj.1 ?_));have e:((c.toNat:Nat):Int)=45:=e;have:(45:UInt8).toNat=45:=rfl;omega
     repeat' first|(apply acs;rfl;rfl)|(apply acJ;rfl;rfl)|refine gc ?_|(intro _;omega)|intro _
     all_goals try omega
     all_goals exact main false _ _ (fun e st h=>by rw[e1];exact h))
 exact⟨v0,h0,v',hh,ho,hr⟩
theorem tX (x:AV){l:List Int}(h:cz x l):cG x=true/\x.top=0/\bG x=x:=by
 rcases h with rfl|⟨rfl,rfl⟩
 . exact⟨rfl,fm l,by rw[bG,pj]⟩
 . exact⟨rfl,rfl,rfl⟩
theorem bQ.shape {v:AV}{z:Int}(h:bQ v z):∃neg x l,v = .agg [.bool neg,x]/\cz x l/\cG x=true/\x.top=0/\bG x=x:=by
 obtain⟨neg,x,l,rfl,hx,_⟩:=h;obtain⟨h1,h2,h3⟩:=tX x hx;exact⟨neg,x,l,rfl,hx,h1,h2,h3⟩
theorem mi {n:Bool}{x:AV}(h:cG x=true):[AV.bool n,x].all cG=true:=by rw[List.all_cons,List.all_cons,List.all_nil,h];rfl
theorem NZ {s:ah}(h:jE s=true):s.take (bX s)=(bD 47 s).1/\s.drop (bX s+1)=(bD 47 s).2.getD []/\bX s+1<=s.length:=by
 unfold jE at h;obtain⟨y,hy⟩:=Option.isSome_iff_exists.1 h;have h1:=Ev hy;have h2:=MB hy;have h3:=tz hy;refine⟨h1,?_,by unfold bX;omega⟩;rw[hy];exact h2
theorem Oa (hft:M.FT=FT)(s:ah)(hl:s.length<1000000)(hb:jE s=true)(q153:∀h,M.ext 153 [.str s] h=some ⟨.iV (bX s),h,[]⟩){v1 v2:AV}{z1 z2:Int}(k1:bQ v1 z1)(k2:bQ v2 z2)(qa:∀h,M.ext 193 [.str (bD 47 s).1] h=some ⟨v1,h,[]⟩)(qb:∀h,M.ext 193 [.str ((bD 47 s).2.getD [])] h=some ⟨v2,h,[]⟩):cD M 135 [.str s] (.au [v1,v2]):=by
 obtain⟨e1,e2,hk⟩:=NZ hb;obtain⟨n1,x1,l1,rfl,_,o1,t1,b1⟩:=k1.shape;obtain⟨n2,x2,l2,rfl,_,o2,t2,b2⟩:=k2.shape;have e1':s.take ((bX s:Nat):Int).toNat=(bD 47 s).1:=e1;have e2':s.drop ((bX s:Int)+1).toNat=(bD 47 s).2.getD []:=by rw[show ((bX s:Int)+1).toNat=bX s+1 by omega];exact e2
 generalize (bD 47 s).1=X at *
 generalize (bD 47 s).2.getD []=Y at *
 refine cH (by rw[hft];exact NH) (by simp) ?_;unfold Ff;simp only[enter];refine gg16 ?_;refine cn rfl rfl (.same ?_ ?_)
 . show max (max 0 (max x1.top 0)) (max (max 0 (max x2.top 0)) 0)=0;rw[t1,t2];rfl
 . show AV.au [.agg [.bool n1,bG x1],.agg [.bool n2,bG x2]]=_;rw[b1,b2]
theorem Ob (hft:M.FT=FT)(a b:List Int)(ha:okW dB a)(hb:okW dB b)(na:aM a)(nb:aM b)(la:a.length<1000000000)(_lb:b.length<1000000000) :
 aS M 218 [.vs (al a) a.length c1,.vs (al b) b.length c2] [] ⟨.iV (bg (WV dB a-WV dB b)),[],[]⟩:=by
 have hB:(1:Int)<dB:=by decide
 refine bC (by rw[hft];exact aef) (by simp) ?_;by_cases hl:a.length=b.length
 . have loop:∀(r:Nat) lo a2 wr {Q:Ex->aq->Prop},r<=a.length->a.drop r=b.drop r ->
    (∀lo wr z,z=bg (WV dB a-WV dB b)->∀a3,Q .ret ⟨⟨[.vs (al a) a.length c1,.vs (al b) b.length c2,.iV z,a3],lo,[],[]⟩,wr⟩) ->
    (bg (WV dB a-WV dB b)=0->∀lo wr,Q (.exit 0) ⟨⟨[.vs (al a) a.length c1,.vs (al b) b.length c2,a2,.iV (-1)],lo,[],[]⟩,wr⟩) ->
    W M (.loop qU) ⟨⟨[.vs (al a) a.length c1,.vs (al b) b.length c2,a2,.iV ((r:Int)-1)],lo,[],[]⟩,wr⟩ Q:=by
    intro r;induction r with
    | zero=>
     intro lo a2 wr Q hr hd h1 h2;rw[List.drop_zero,List.drop_zero]at hd;refine W.loop ?_;unfold qU;exact gg8
    | succ r ih=>
     intro lo a2 wr Q hr hd h1 h2;have er:((r+1:Nat):Int)-1=r:=by omega
     rw[er];have hai:a[((r:Int)).toNat]! = a[r]! := rfl;have hbi:b[((r:Int)).toNat]! = b[r]! := rfl;refine W.loop ?_;by_cases hlt:a[r]! < b[r]!
     . have:=wN hB ha hb (i:=r) (by omega) (by omega) hd hlt;rw[←hai,←hbi]at hlt;unfold qU;exact gg5
     . by_cases hgt:b[r]! < a[r]!
       . have:=wN hB hb ha (i:=r) (by omega) (by omega) hd.symm hgt;rw[←hai,←hbi]at hlt hgt;unfold qU;exact gg5
       . have hd2:a.drop r=b.drop r:=by
          rw[List.drop_eq_getElem_cons (show r<a.length by omega),List.drop_eq_getElem_cons (show r<b.length by omega),hd,←getElem!_pos a r,←getElem!_pos b r];exact congrArg (· :: _) (show a[r]! = b[r]! by omega)
         rw[←hai,←hbi]at hlt hgt;unfold qU;exact gg5
   unfold Fj;simp only[enter];refine gg12 ?_;refine loop a.length _ _ _ (Nat.le_refl _) (by rw[List.drop_length,hl,List.drop_length]) (fun lo wr z hz a3=>?_) (fun hz lo wr=>?_)
   . subst hz;repeat' first|refine gc ?_|fail
     all_goals exact⟨.inr rfl,rfl,_,rfl,rfl,rfl⟩
   . rw[hz];repeat' first|refine gc ?_|fail
     all_goals exact⟨.inr rfl,rfl,_,rfl,rfl,rfl⟩
 . unfold Fj;simp only[enter];by_cases hlt:a.length<b.length
   . have:=oC hB ha hb nb hlt;rw[show bg (WV dB a-WV dB b) = -1 by rw[bg,if_pos (by omega)]];repeat' first|(apply abt;rfl;rfl)|(apply adW;rfl;rfl)|refine gc ?_|(intro _;omega)|intro _
     all_goals first|contradiction|(omega)|skip
     all_goals exact⟨.inr rfl,rfl,_,rfl,rfl,rfl⟩
   . have:=oC hB hb ha na (by omega);rw[show bg (WV dB a-WV dB b)=1 by rw[bg,if_neg (by omega),if_pos (by omega)]];repeat' first|(apply abt;rfl;rfl)|(apply adW;rfl;rfl)|refine gc ?_|(intro _;omega)|intro _
     all_goals first|contradiction|(omega)|skip
     all_goals exact⟨.inr rfl,rfl,_,rfl,rfl,rfl⟩
theorem aev (a:List Int)(oa:okW dB a)(la:a.length<10000000)(d:Int)(hd:0<d/\d<=1000000000){Q:Ex->aq->Prop}(a2 a3:AV)
 (hQ:∀L (re:Int) a7 lo wr,L.length=a.length->okW dB L->(0<=re/\re<d)->WV dB a=d*WV dB L+re ->
   Q (.exit 0) ⟨⟨[.vs (al a) a.length c1,.iV d,a2,a3,.sl 0 0 a.length 1 (some a.length),.iV re,.iV (-1),a7],lo,[some (.cells (al L) 3)],[]⟩,wr⟩) (a7:AV) (lo:List (Nat×AV)) :
 W M (.loop zh) ⟨⟨[.vs (al a) a.length c1,.iV d,a2,a3,.sl 0 0 a.length 1 (some a.length),.iV 0,.iV ((a.length:Int)-1),a7],lo,[some (.cells (al (List.replicate a.length 0)) 3)],[]⟩,[]⟩ Q:=by
 refine W.fV (fun t s=>∃L re iv a7 lo wr,s=⟨⟨[.vs (al a) a.length c1,.iV d,a2,a3,.sl 0 0 a.length 1 (some a.length),.iV re,.iV iv,a7],lo,[some (.cells (al L) 3)],[]⟩,wr⟩ /\
  iv=(t:Int)-1/\t<=a.length/\L.length=a.length/\okW dB L/\(0<=re/\re<d)/\(∀k,k<t->L[k]! = 0)/\WV dB a=d*WV dB L+dB^t*re+WV dB (a.take t)) (fun t s ⟨L,re,iv,a7,lo,wr,hs,hiv,ht,hL,oL,hre,hz,hv⟩=>?_) (m:=a.length)
  ⟨_,_,_,_,_,_,rfl,rfl,Nat.le_refl _,by simp,kA (by decide),⟨by decide,hd.1⟩,fun k _=>kD,by rw[kB,List.take_length];simp⟩
 subst hs;cases t with
 | zero=>
  obtain rfl:iv = -1:=by omega
  unfold zh;exact gg8
 | succ i=>
  obtain rfl:iv=(i:Int):=by omega
  have gx:=bT oa (i:=i) (by omega);obtain⟨x,hx⟩:∃x,x=a[((i:Int)).toNat]! := ⟨_,rfl⟩;rw[show a[i]! = x from hx.symm]at gx;have gx:0<=x/\x<1000000000:=gx;have e1:=Int.mul_ediv_add_emod (re*1000000000+x) d;have r0:=Int.emod_nonneg (re*1000000000+x) (show d≠0 by omega);have r1:=Int.emod_lt_of_pos (re*1000000000+x) hd.1;have d0:0<=(re*1000000000+x)/d:=Int.ediv_nonneg (by omega) (by omega);have d1:(re*1000000000+x)/d<1000000000:=Int.ediv_lt_of_lt_mul hd.1 (by omega);have eI:0+((i:Int)).toNat*1=i:=by omega
  obtain⟨q,hq⟩:∃q,q=(re*1000000000+x)/d:=⟨_,rfl⟩;obtain⟨r,hr⟩:∃r,r=(re*1000000000+x)%d:=⟨_,rfl⟩;have next:∀a7 lo wr,LI (fun s=>∃m',m'<i+1/\∃L re iv a7 lo wr,s=⟨⟨[.vs (al a) a.length c1,.iV d,a2,a3,.sl 0 0 a.length 1 (some a.length),.iV re,.iV iv,a7],lo,[some (.cells (al L) 3)],[]⟩,wr⟩ /\
   iv=(m':Int)-1/\m'<=a.length/\L.length=a.length/\okW dB L/\(0<=re/\re<d)/\(∀k,k<m'->L[k]! = 0)/\WV dB a=d*WV dB L+dB^m'*re+WV dB (a.take m')) Q .normal ⟨⟨[.vs (al a) a.length c1,.iV d,a2,a3,.sl 0 0 a.length 1 (some a.length),.iV r,.iV ((i:Int)-1),a7],lo,[some (.cells (al (L.set i q)) 3)],[]⟩,wr⟩:=fun a7 lo wr=>
   cN ⟨i,Nat.lt_succ_self i,_,_,_,a7,lo,wr,rfl,rfl,by omega,by rw[List.length_set];exact hL,fY oL ⟨by rw[hq];exact d0,by rw[hq];exact d1⟩,by rw[hr];exact⟨r0,r1⟩,fun k hk=>by rw[gJ (by omega)];exact hz k (by omega),by
    rw[hv,fZ (by omega),hz i (by omega),fl (by omega),show a[i]! = x from hx.symm,Int.pow_succ,Int.sub_zero];rw[←hq,←hr]at e1;have e2:dB^i*dB*re+dB^i*x=dB^i*(d*q+r):=by rw[e1];show dB^i*1000000000*re+_=_;grind
    rw[Int.mul_add]at e2 ⊢;have e3:d*(dB^i*q)=dB^i*(d*q):=by grind
    rw[e3];omega⟩
  rw[hq,hr,hx]at next
  rw[hx]at gx;have hre2:re<1000000000:=by omega
  unfold zh;exact gg19
section
variable {t b m:Nat} {x y:aN} {l:List aT} {pe:List AV} {lo:List (Nat×AV)} {hp:ab} {df wr:List Nat} {L:List Int} {e:TypeId} {v a d:Int} {Q:aq->Prop}
theorem aiJ (hx:(St.mk pe lo hp df).ae x=some (.iV a))(hy:(St.mk pe lo hp df).ae y=some (.iV d))(ha:0<=a/\a<9223372036854775808)(hd:0<d)
 (h:WO M l ⟨⟨pe,(t,.iV (a/d))::lo,hp,df⟩,wr⟩ Q):WO M (⟨.l t,.bin .quo x y,none⟩::l) ⟨⟨pe,lo,hp,df⟩,wr⟩ Q:=by
 refine aiw hx hy hd (by omega) ?_;rw[Int.tdiv_eq_ediv_of_nonneg ha.1];exact h
theorem aja (hx:(St.mk pe lo hp df).ae x=some (.iV a))(hy:(St.mk pe lo hp df).ae y=some (.iV d))(ha:0<=a)(hd:0<d)
 (h:WO M l ⟨⟨pe,(t,.iV (a%d))::lo,hp,df⟩,wr⟩ Q):WO M (⟨.l t,.bin .rem x y,none⟩::l) ⟨⟨pe,lo,hp,df⟩,wr⟩ Q:=by
 refine aix hx hy (by omega) ?_;rw[Int.tmod_eq_emod_of_nonneg ha];exact h
theorem aiZ (hx:(St.mk pe lo hp df).ae x=some (.ptr b m))(hb:hp.at b=some (.cells (al L) e))(hi:m<L.length)(hv:L[m]! = v)
 (h:WO M l ⟨⟨pe,(t,.iV v)::lo,hp,df⟩,wr⟩ Q):WO M (⟨.l t,.load 1 false x,none⟩::l) ⟨⟨pe,lo,hp,df⟩,wr⟩ Q:=by
 subst hv;exact aiS hx hb hi h
end
def kM (v:AV)(hh:ab)(r:List Int)(z:Int):Prop:=∃v1,ik hh v v1/\v1.top=0/\bU v1 = .au [.vs (al r) r.length none,.iV z]
theorem kM.trim {b:Nat}{L:List Int}{e:TypeId}{hp:ab}{n:Nat}{z:Int}(hb:hp.at b=some (.cells (al L) e))(hn:n<=L.length):kM (aU [bz b (aP (L.take n)) cap,.iV z]) (if (aU [bz b (aP (L.take n)) cap,.iV z]).top<=0 then [] else hp) (L.take (aP (L.take n))) z:=by
 have hle:=im (l:=L.take n);rw[List.length_take]at hle;obtain⟨k,hk⟩:∃k,k=aP (L.take n):=⟨_,rfl⟩;rw[←hk]at hle ⊢;by_cases h0:0<k
 . have e1:bz b k cap = .sl b 0 k 1 cap:=if_pos h0;rw[e1,if_neg (by simp[aU,AV.top,bh])];have hl:(L.take k).length=k:=by rw[List.length_take];omega
   have hF:Fr hp [b] (.sl b 0 k 1 cap) (.vs (al (L.take k)) k none):=by
    refine .sl (m:=al (L.take k)) (List.mem_singleton.2 rfl) hb ?_ rfl (fun i x y hx hy=>?_) (.inr rfl)
    . have:=ku (f:=iC) (esz:=1) (fun _=>rfl) (l:=L) (i:=0) (n:=k) (by omega);simpa using this
    . rw[hx]at hy;cases hy;exact .same (cB (fm _) hx)
   unfold kM;rw[hl];refine⟨.au [.vs (al (L.take k)) k none,.iV z],⟨[b],.au rfl (fun i x y hx hy=>?_),rfl,fun c l' e' hc hl'=>?_⟩,by simp[AV.top,bh,fm],by simp only[bU,dO,Fl]⟩
   . match i with
     | 0=>cases hx;cases hy;exact hF
     | 1=>cases hx;cases hy;exact .same rfl
     | i+2=>cases hx
   . rw[List.mem_singleton.1 hc,hb]at hl';cases hl';exact nZ (fun _=>rfl) _
 . obtain rfl:k=0:=by omega
   exact⟨.au [.vs [] 0 cap,.iV z],.same rfl rfl,rfl,rfl⟩
theorem kM.zero {b:Nat}{e:TypeId}{hp:ab}{z:Int}(hb:hp.at b=some (.cells (al []) e)):kM (aU [.sl b 0 0 1 cap,.iV z]) (if (aU [.sl b 0 0 1 cap,.iV z]).top<=0 then [] else hp) [] z:=by
 rw[if_neg (by simp[aU,AV.top,bh])];refine⟨.au [.vs [] 0 none,.iV z],⟨[b],.au rfl (fun i x y hx hy=>?_),rfl,fun c l' e' hc hl'=>?_⟩,rfl,rfl⟩
 . match i with
   | 0=>cases hx;cases hy;exact .sl (m:=[]) (List.mem_singleton.2 rfl) hb rfl rfl (fun i x y hx=>by simp at hx) (.inr rfl)
   | 1=>cases hx;cases hy;exact .same rfl
   | i+2=>cases hx
 . rw[List.mem_singleton.1 hc,hb]at hl';cases hl';rfl
theorem Fq (hft:M.FT=FT){b:Nat}{L:List Int}{e:TypeId}{hp:ab}(hb:hp.at b=some (.cells (al L) e)):aS M 242 [.sl b 0 0 1 cap] hp ⟨.sl b 0 0 1 cap,hp,[]⟩:=by
 have hbl:=eM hb;refine lF (by rw[hft];exact yT) (by simp) (by simp[AV.top];omega) ?_;unfold tN;simp only[enter];repeat' first|refine gc ?_|fail
 refine W.loop ?_;unfold jD;exact gg3
def Oc (M:aw)(g:Nat)(ars:List AV)(x y:Int):Prop:=∃q:List Int,(okW dB q/\aM q/\WV dB q=x/y)/\∃v hh,kM v hh q (x%y)/\aS M g ars [] ⟨v,hh,[]⟩
theorem aew {f N:Nat}{aO:List Nat}{res:List fa}{body:an}{ars:List AV}{x y:Int}(hft:M.FT f=some ⟨N,aO,res,body⟩)(hN:ars.length<=N)
 (h:W M body ⟨⟨aO.map (fun t=>(ars[t]?).getD cm),[],[],[]⟩,[]⟩ fun e s=>(e = .normal\/e = .ret)/\s.s.bO=[]/\∃vs,cX s.s res=some vs/\∃q:List Int,(okW dB q/\aM q/\WV dB q=x/y)/\kM (aU vs) (if (aU vs).top<=0 then [] else s.s.hp) q (x%y)):Oc M f ars x y:=by
 obtain⟨v,hh,⟨q,hq,ho⟩,h2⟩:=gH (P:=fun v hh=>∃q:List Int,(okW dB q/\aM q/\WV dB q=x/y)/\kM v hh q (x%y)) hft hN h;exact⟨q,hq,v,hh,ho,h2⟩
theorem aex (hft:M.FT=FT)(dP:∀ars h,M.ext 242 ars h=none)(a:List Int)(oa:okW dB a)(la:a.length<10000000)(d:Int)(hd:0<d/\d<=1000000000):Oc M 241 [.vs (al a) a.length c1,.iV d] (WV dB a) d:=by
 refine aew (by rw[hft];exact aeg) (by simp) ?_;unfold NN;simp only[enter];repeat' first|refine gc ?_|fail
 rw[show ((a.length:Int)).toNat=a.length from rfl];refine aev a oa la d hd _ _ (fun L re a7 lo wr hL oL hre hv=>?_) _ _;obtain⟨d1,d2⟩:=mS hv hre.1 hre.2;obtain⟨g1,g2,g3⟩:=ph oL;by_cases h0:a.length=0
 . have hL0:L=[]:=List.eq_nil_of_length_eq_zero (by omega);subst hL0;have hl0:a.length=0:=h0;have q0:CT M (ir 242) [.sl 0 0 a.length 1 (some a.length)] [some (.cells (al []) 3)] ⟨.sl 0 0 a.length 1 (some a.length),[some (.cells (al []) 3)],[]⟩:=by
    rw[hl0];exact CT.run (fi:=[]) (ca:=[]) (dP _ _) (Fq hft rfl)
   repeat' first|(apply aeT;rfl;rfl;first|exact q0)|refine gc ?_|fail
   have hout:=kM.zero (cap:=some a.length) (e:=3) (hp:=[some (.cells (al []) 3)]) (b:=0) (z:=re) rfl;refine⟨.inr rfl,rfl,_,rfl,[],⟨ix,jK,d1⟩,?_⟩;rw[←d2,hl0];rw[hl0]at hout;exact hout
 . have q1:CT M (ir 242) [.sl 0 0 a.length 1 (some a.length)] [some (.cells (al L) 3)] ⟨bz 0 (aP (L.take a.length)) (some a.length),[some (.cells (al L) 3)],[]⟩:=pk (cap:=some a.length) hft dP rfl (by omega) (by omega) (by omega) (fun c hc=>by cases hc;exact Nat.le_refl _);repeat' first|(apply aeT;rfl;rfl;first|exact q1)|refine gc ?_|fail
   have hout:=kM.trim (cap:=some a.length) (b:=0) (L:=L) (e:=3) (hp:=[some (.cells (al L) 3)]) (n:=a.length) (z:=re) rfl (by omega);refine⟨.inr rfl,rfl,_,rfl,L.take (aP (L.take a.length)),?_,?_⟩
   . rw[List.take_of_length_le (show L.length<=a.length by omega)];exact⟨g1,g2,by rw[g3,d1]⟩
   . rw[←d2];exact hout
end Go.Ab.Ch1
