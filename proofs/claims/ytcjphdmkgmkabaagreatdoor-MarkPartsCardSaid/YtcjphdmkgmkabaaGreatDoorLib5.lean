/-
  Own work: the contracts of texts, and of operations on numbers as texts, as tables.
-/
import Derived.Test.YtcjphdmkgmkabaaGreatDoorLib4
import Derived.Test.YtcjphdmkgmkabaaGreatDoorCh1Base
import Derived.Test.YtcjphdmkgmkabaaGreatDoorLib3
import Derived.Test.YtcjphdmkgmkabaaGreatDoorLib2
set_option maxHeartbeats 8000000
set_option maxRecDepth 20000
namespace Go.Ab.Ch1
open Go.Proofs Go.Ab.aY
variable {T:List (Nat×Spec)}
set_option maxRecDepth 1000000 in
theorem aam:nE Tryz.prog 323 .same:=⟨⟨_,rfl,by kernel_rfl,by kernel_rfl,by kernel_rfl,by kernel_rfl⟩⟩
noncomputable def Ll:Spec:=sK [] 324
noncomputable def Lm:Spec:=sK [] 325
theorem aan:aS Tryz.prog gl 324 Ll:=bg bx
theorem aao:aS Tryz.prog gl 325 Lm:=bg bx
noncomputable def Ln:List (Nat×Spec):=[(240,sh),(324,Ll),(325,Lm)]
theorem cIt:JG (aX Tryz.prog FT Ln) where
 ft:=bj
 rP:=fun x h hx=>Cg x h hx
 JH:=fun x h hx=>bP (XY bj x hx) rfl rfl rfl h
 Ct:=fun x h=>bP (XZ bj x) rfl rfl rfl h
noncomputable def Lo:Spec:=sK [] 304
noncomputable def Lp:Spec:=sK Ln 305
theorem aaq:aS Tryz.prog gl 304 Lo:=bg bx
theorem aar:aS Tryz.prog gl 305 Lp:=bg (aP Cf (aP aan (aP aao bx)))
noncomputable def xf:List (Nat×Spec):=[(304,Lo),(305,Lp)]
theorem Lr:cA Tryz.prog gl (bm xf):=aP aaq (aP aar bx)
theorem Ls:sx (aX Tryz.prog FT xf) where
 ft:=bj
 JL:=fun _ _=>rfl
 Cz:=fun n h hn=>bP (Yj bj n hn) rfl rfl rfl h
 wM:=fun d h hd=>bP (Ye cIt d hd) rfl rfl rfl h
noncomputable def xg:Spec:=sK xf 299
noncomputable def xh:Spec:=sK xf 267
noncomputable def xi:Spec:=sK [(267,xh)] 226
noncomputable def Dh:Spec:=sK [(226,xi)] 183
noncomputable def Di:Spec:=sK [(299,xg)] 263
theorem aas:aS Tryz.prog gl 299 xg:=bg Lr
theorem aat:aS Tryz.prog gl 267 xh:=bg Lr
theorem aau:aS Tryz.prog gl 226 xi:=bg (aP aat bx)
theorem aav:aS Tryz.prog gl 183 Dh:=bg (aP aau bx)
theorem aaw:aS Tryz.prog gl 263 Di:=bg (aP aas bx)
theorem aax:∀z h,(-9223372036854775808<=z/\z<9223372036854775808)->Dh [.iV z] h=some ⟨.str (bL z),h,[]⟩:=fun z h hz=>by
 have q267:∀h,xh [.iV z,.iV 10] h=some ⟨.str (bL z),h,[]⟩:=bP (Yo Ls z hz) rfl rfl rfl;have q226:∀h,xi [.iV z] h=some ⟨.str (bL z),h,[]⟩:=bP (Yp (M:=aX Tryz.prog FT [(267,xh)]) bj z q267) rfl rfl rfl;exact bP (Yq (M:=aX Tryz.prog FT [(226,xi)]) bj z q226) rfl rfl rfl h
theorem aay:∀(u:Nat) h,u<18446744073709551616->Di [.uV u,.iV 10] h=some ⟨.str (aR u),h,[]⟩:=fun u h hu=>by
 have q299:∀h,xg [.uV u,.iV 10] h=some ⟨.str (aR u),h,[]⟩:=bP (Yn Ls u hu) rfl rfl rfl;exact bP (Yr (M:=aX Tryz.prog FT [(299,xg)]) bj u q299) rfl rfl rfl h
noncomputable def mR:Spec:=sK [] 255
noncomputable def sO:Spec:=sK [(255,mR)] 212
noncomputable def xj:Spec:=sK [(255,mR)] 258
noncomputable def xk:Spec:=sK [(258,xj)] 213
noncomputable def xl:Spec:=sK [(255,mR)] 207
noncomputable def Dj:Spec:=sK [(207,xl)] 162
theorem Dk:aS Tryz.prog gl 255 mR:=bg bx
theorem Lt:aS Tryz.prog gl 212 sO:=bg (aP Dk bx)
theorem aaz:aS Tryz.prog gl 258 xj:=bg (aP Dk bx)
theorem aaA:aS Tryz.prog gl 213 xk:=bg (aP aaz bx)
theorem aaB:aS Tryz.prog gl 207 xl:=bg (aP Dk bx)
theorem aaC:aS Tryz.prog gl 162 Dj:=bg (aP aaB bx)
theorem Dl:∀(s:an) b h,s.length<1000000->mR [.str s,.str [b]] h=some ⟨.bool (preB b s),h,[]⟩:=fun s b h hl=>bP (ZH bj s b hl) rfl rfl rfl h
theorem xn:∀(s:an) b h,s.length<1000000->sO [.str s,.str [b]] h=some ⟨.bool (preB b s),h,[]⟩:=fun s b h hl=>
 bP (ZI (M:=aX Tryz.prog FT [(255,mR)]) bj s b fun h=>Dl s b h hl) rfl rfl rfl h
theorem aaD:∀(s:an) b h,s.length<1000000->xk [.str s,.str [b]] h=some ⟨.str (bJ b s),h,[]⟩:=fun s b h hl=>by
 have q258:∀h,xj [.str s,.str [b]] h=some ⟨.str (bJ b s),h,[]⟩:=bP (ZJ (M:=aX Tryz.prog FT [(255,mR)]) bj s b hl fun h=>Dl s b h hl) rfl rfl rfl;exact bP (ZK (M:=aX Tryz.prog FT [(258,xj)]) bj s b q258) rfl rfl rfl h
theorem aaE:∀(s:an) b h,s.length<1000000->Dj [.str s,.str [b]] h=some ⟨.aq [.str (bJ b s),.bool (preB b s)],h,[]⟩:=fun s b h hl=>by
 have q207:∀h,xl [.str s,.str [b]] h=some ⟨.aq [.str (bJ b s),.bool (preB b s)],h,[]⟩:=bP (ZL (M:=aX Tryz.prog FT [(255,mR)]) bj s b hl fun h=>Dl s b h hl) rfl rfl rfl;exact bP (ZM (M:=aX Tryz.prog FT [(207,xl)]) bj s b q207) rfl rfl rfl h
def Lu:List (Nat×Spec):=[(312,my .index)]
theorem cIx:sE (aX Tryz.prog FT Lu) where
 ft:=bj
 Kz:=fun _ _=>rfl
 KA:=fun _ _=>rfl
 KB:=fun _ _ _=>rfl
noncomputable def xp:Spec:=sK Lu 163
theorem aaG:aS Tryz.prog gl 163 xp:=bg (aP (uA Hw) bx)
theorem aaH:∀(s:an) b h,s.length<1000000->xp [.str s,.str [b]] h=some ⟨iB b s,h,[]⟩:=fun s b h hl=>bP (Zp (fun _ _=>rfl) cIx s b hl) rfl rfl rfl h
theorem aaI:cJ eu=eu:=by
 unfold eu;induction List.range 256 with
 | nil=>rfl
 | cons a l ih=>
  rw[List.map_cons,cJ,ih];rfl
theorem aaJ:bk eu=0:=by
 unfold eu;induction List.range 256 with
 | nil=>rfl
 | cons a l ih=>simp only[List.map_cons,bk,ih,AV.top];rfl
noncomputable def xq:Spec:=sK [] 288
noncomputable def xr:Spec:=sK [(288,xq)] 257
noncomputable def xu:Spec:=sK [(257,xr)] 209
noncomputable def Dm:Spec:=sK [(209,xu)] 164
noncomputable def xw:Spec:=sK [] 214
theorem aaK:aS Tryz.prog gl 288 xq:=bg bx
theorem aaL:aS Tryz.prog gl 257 xr:=bg (aP aaK bx)
theorem aaM:aS Tryz.prog gl 209 xu:=bg (aP aaL bx)
theorem aaN:aS Tryz.prog gl 164 Dm:=bg (aP aaM bx)
theorem aaO:aS Tryz.prog gl 214 xw:=bg bx
theorem aaP:∀h,xq [.str mQ] h=some ⟨.aq [.agg eu,.bool true],h,[]⟩:=bP (Zs bj) rfl (by simp[AV.top,bk,aaJ]) (by simp only[bK,cJ,aaI])
theorem aaQ:oF (aX Tryz.prog FT [(288,xq)]) where
 ft:=bj
 KD:=fun _ _=>rfl
 KE:=fun _ _=>rfl
 KF:=fun _ _=>rfl
 wT:=aaP
theorem aaR:∀(s:an) h,s.length<1000000->Dm [.str s] h=some ⟨.bool (dF s),h,[]⟩:=fun s h hl=>by
 have q257:∀h,xr [.str s,.str mQ] h=some ⟨.str (jL (iG s)),h,[]⟩:=bP (ZB aaQ s hl) rfl rfl rfl;have q209:∀h,xu [.str s] h=some ⟨.bool (decide (s≠[]) && s.all bF),h,[]⟩:=bP (ZV (M:=aX Tryz.prog FT [(257,xr)]) bj s q257) rfl rfl rfl;exact bP (ZW (M:=aX Tryz.prog FT [(209,xu)]) bj s q209) rfl rfl rfl h
theorem aaS:∀(s:an) h,s≠[]->s.length<=18->s.all bF=true->xw [.str s] h=some ⟨.aq [.iV (ay 0 s),.cY],h,[]⟩:=fun s h h0 hl hd=>bP (ZG ⟨bj,fun _ _=>rfl⟩ s h0 hl hd) rfl rfl rfl h
noncomputable def Dn:Spec:=sK [(244,mJ)] 300
theorem aaT:aS Tryz.prog gl 300 Dn:=bg (aP Cb bx)
theorem aaU {k:Nat}(hk:k<=64):∀h,Dn [.uV 1,.uV k] h=some ⟨.aq [.uV 0,.uV k],h,[]⟩:=
 bP (aaj (M:=aX Tryz.prog FT [(244,mJ)]) bj k fun h=>by
  have:=Cc 1 k h (by decide) (by omega);rw[show (1:Int)*k/18446744073709551616=0 by omega,show (1:Int)*k%18446744073709551616=k by omega]at this;exact this) rfl rfl rfl
noncomputable def Lv:List (Nat×Spec):=[(300,Dn),(212,sO)]
noncomputable def Dp:Spec:=sK Lv 264
theorem aaV:aS Tryz.prog gl 264 Dp:=bg (aP aaT (aP Lt bx))
set_option maxRecDepth 1000000 in
theorem aaW:∀(k:Nat) h,k<=64->Dp [.str [48],.iV k] h=some ⟨.str (List.replicate k 48),h,[]⟩:=fun k h hk=>
 bP (aal (M:=aX Tryz.prog FT Lv) bj k hk (aaU hk) (fun h=>xn nf 48 h (by decide)) (fun h=>xn Lj 48 h (by decide)) (fun h=>xn Lk 48 h (by decide))) rfl rfl rfl h
noncomputable def xy:List (Nat×Spec):=(183,Dh)::(263,Di)::(264,Dp)::(253,qm)::(323,my .same)::TI
theorem aaX:cA Tryz.prog gl (bm xy):=aP aav (aP aaw (aP aaV (aP Wj (aP (uA aam) qn))))
theorem eSt:EI xy:=by repeat' first|exact fun _ _=>rfl|constructor
theorem cSt {N:Nat}(hN:N<=500000):wQ (aX Tryz.prog FT xy) N:={ eSt.c hN with
 Kd:=fun z h hz=>aax z h hz
 CL:=fun u h hu=>aay u h hu
 Ke:=fun k h hk=>aaW k h hk
 Kf:=fun l b c h o n hl hv hb=>Wk l b c h o n hl hv hb
 Kg:=fun l b c h o n hl hv hb=>Wl l b c h o n hl hv hb
 CM:=fun _ _=>rfl
 CN:=fun _ _=>rfl
 qp:=fun _ _=>rfl
 oE:=fun _ _=>rfl }
noncomputable def Dr:Spec:=sK xy 224
theorem aba:aS Tryz.prog gl 224 Dr:=bg aaX
theorem Lw {N:Nat}(hN:N<=500000):∀v z,aw v z->ak z<wB^N->∀h,Dr [v] h=some ⟨.str (bL z),h,[]⟩:=fun v z hv lz=>bP (YJ (cSt hN) hv lz) (gM hv.top) rfl rfl
noncomputable def Ds:List (Nat×Spec):=(240,sh)::TI
theorem abb:EI Ds:=by repeat' first|exact fun _ _=>rfl|constructor
noncomputable def xz:Spec:=sK Ds 262
noncomputable def xB:Spec:=sK [(262,xz)] 223
noncomputable def Dt:Spec:=sK [(223,xB)] 175
theorem abc:aS Tryz.prog gl 262 xz:=bg (aP Cf qn)
theorem abd:aS Tryz.prog gl 223 xB:=bg (aP abc bx)
theorem abe:aS Tryz.prog gl 175 Dt:=bg (aP abd bx)
theorem abf {z:Int}(h:z<2^1800):z<wB^29:=by
 have e:wB=2^64:=by decide
 rw[e,←Int.pow_mul];exact Int.lt_of_lt_of_le h (gJ (by decide) (by decide))
theorem abg:∀v z h,aw v z->ak z<2^1800->xB [v] h=some ⟨.bool false,h,[]⟩:=fun v z h hv lz=>by
 have q262:∀h,xz [v] h=some ⟨.iV (cj (ak z)),h,[]⟩:=dx (VP (M:=aX Tryz.prog FT Ds) (abb.c (N:=29) (by decide)) (fun x h hx=>Cg x h hx) hv (abf lz)) (gM hv.top);exact bP (YK (M:=aX Tryz.prog FT [(262,xz)]) bj hv lz q262) (gM hv.top) rfl rfl h
theorem abh:∀v q,bI v q->ak q.num<2^1800->(q.den:Int)<2^1800->∀h,Dt [v] h=some ⟨.bool false,h,[]⟩:=fun v q hv l1 l2=>
 bP (YL (M:=aX Tryz.prog FT [(223,xB)]) bj hv l1 l2 fun v z h hv lz=>abg v z h hv lz) (gM hv.top) rfl rfl
noncomputable def Lx:List (Nat×Spec):=[(201,ss),(224,Dr)]
noncomputable def Du:Spec:=sK Lx 176
theorem abi:aS Tryz.prog gl 176 Du:=bg (aP Jn (aP aba bx))
theorem abj (n:Nat):bL (n:Int)=aR n:=by
 rw[ku (by omega),cV (by omega)];rfl
theorem Dq.bq {k N:Nat}{q:Rat}(h:Dq k q)(hN:k<=N):Bq N q:=by
 have e:(10:Int)^k<=wB^N:=Int.le_trans (oH hN) (by
  clear hN;induction N with
  | zero=>decide
  | succ n ih=>
   rw[Int.pow_succ,Int.pow_succ];have h0:(0:Int)<=10^n:=Int.le_of_lt (qw n);have h1:(0:Int)<=wB^n:=Int.le_trans h0 ih;exact Int.le_trans (Int.mul_le_mul_of_nonneg_right ih (by decide)) (Int.mul_le_mul_of_nonneg_left (by decide) h1))
 exact⟨Int.lt_of_lt_of_le h.1 e,Int.lt_of_lt_of_le h.2 e⟩
theorem abk {k:Nat}(h:k<=450):(10:Int)^k<=2^1800:=by
 have e:(10:Int)^k<=(2^4)^k:=by
  clear h;induction k with
  | zero=>decide
  | succ n ih=>
   rw[Int.pow_succ,Int.pow_succ];have h0:(0:Int)<=10^n:=Int.le_of_lt (qw n);have h1:(0:Int)<=(2^4)^n:=Int.le_trans h0 ih;exact Int.le_trans (Int.mul_le_mul_of_nonneg_right ih (by decide)) (Int.mul_le_mul_of_nonneg_left (by decide) h1)
 rw[←Int.pow_mul]at e;exact Int.le_trans e (gJ (by decide) (by omega))
theorem abl:∀v q,bI v q->Dq 450 q->∀h,Du [v] h=some ⟨.str (aQ q),h,[]⟩:=fun v q hv hq=>by
 have lq:=hq.lq (N:=451) (by decide) (by decide);have bq:=hq.bq (N:=450) (Nat.le_refl _);exact bP (YN (M:=aX Tryz.prog FT Lx) bj hv ⟨by have:=lq.1;omega,by have:=lq.2;omega⟩ (fun h=>Jo v q hv h) (fun v h hv=>Lw (by decide) v _ hv bq.1 h) (fun v h hv=>by
  have:=Lw (N:=450) (by decide) v _ hv (by rw[cV (by omega)];exact bq.2) h;rw[abj]at this;exact this)) (gM hv.top) rfl rfl
noncomputable def Ly:List (Nat×Spec):=[(175,Dt),(176,Du)]
noncomputable def xC:Spec:=sK Ly 105
theorem Lz:aS Tryz.prog gl 105 xC:=bg (aP abe (aP abi bx))
theorem LA:∀v q,bI v q->Dq 450 q->∀h,xC [v] h=some ⟨.aq [.str (aQ q),.iV 0],h,[]⟩:=fun v q hv hq=>by
 have e:=abk (Nat.le_refl 450);exact bP (ZZ (M:=aX Tryz.prog FT Ly) bj hv (fun h=>abh v q hv (Int.lt_of_lt_of_le hq.1 e) (Int.lt_of_lt_of_le hq.2 e) h) (fun h=>abl v q hv hq h)) (gM hv.top) rfl rfl
noncomputable def xD:Spec:=sK TF 215
theorem abm:aS Tryz.prog gl 215 xD:=bg wu
theorem abn {A:Int}(hA:ak A<=10)(i:Nat):ak (A^i)<=10^i:=by
 induction i with
 | zero=>
  rw[Int.pow_zero,Int.pow_zero];decide
 | succ n ih=>
  rw[Int.pow_succ,Int.pow_succ,sd];exact Int.le_trans (Int.mul_le_mul_of_nonneg_right ih iD) (Int.mul_le_mul_of_nonneg_left hA (Int.le_of_lt (qw n)))
theorem abo:∀v A (K:Nat),aw v A->K<=18->ak A<=10->∃v0,aw v0 (A^K)/\∀h,xD [v,.iV K] h=some ⟨v0,h,[]⟩:=fun v A K hv hK hA=>by
 obtain⟨v0,h1,h2⟩:=VR (eF.c (N:=1) (by decide) (by decide)) hv (K:=K) (by omega) fun i hi=>by
  have uK:(10:Int)^i<=10^18:=oH (by omega);have hw:(10:Int)^18<wB^1:=by decide
  exact Int.lt_of_le_of_lt (Int.le_trans (abn hA i) uK) hw
 exact⟨v0,h1,dx h2 (fq hv.top rfl)⟩
noncomputable def xE:List (Nat×Spec):=(212,sO)::(213,xk)::(214,xw)::(215,xD)::TF
theorem LB:cA Tryz.prog gl (bm xE):=aP Lt (aP aaA (aP aaO (aP abm wu)))
structure xF (T:List (Nat×Spec)):Prop extends EF T where
 abp:∀ar h,bm T 212 ar h=sO ar h
 abq:∀ar h,bm T 213 ar h=xk ar h
 abr:∀ar h,bm T 214 ar h=xw ar h
 abt:∀ar h,bm T 215 ar h=xD ar h
theorem xF.c (E:xF T){N:Nat}(h1:1<=N)(hN:N<=500000):wV (aX Tryz.prog FT T) N:={ E.toEF.c h1 hN with
 KO:=fun s h hl=>(E.abp _ _).trans (xn s 45 h hl)
 KP:=fun s h hl=>(E.abq _ _).trans (aaD s 45 h hl)
 KQ:=fun s h h0 hl hd=>(E.abr _ _).trans (aaS s h h0 hl hd)
 KR:=fun v A K hv hK _ hA=>by
  obtain⟨v0,k1,k2⟩:=abo v A K hv hK hA;exact⟨v0,k1,fun h=>(E.abt _ _).trans (k2 h)⟩ }
theorem eRd:xF xE:=by repeat' first|exact fun _ _=>rfl|constructor
noncomputable def xG:Spec:=sK xE 166
theorem abv:aS Tryz.prog gl 166 xG:=bg LB
theorem abw {N:Nat}(h1:1<=N)(hN:N<=500000):∀(s:an),s.length<=N->(bJ 45 s).all bF=true->∃v0,aw v0 (if preB 45 s then -(ay 0 (bJ 45 s):Int) else (ay 0 (bJ 45 s):Nat))/\∀h,xG [.str s] h=some ⟨v0,h,[]⟩:=fun s hl hd=>by
 obtain⟨v0,k1,k2⟩:=ZO (eRd.c h1 hN) s hl hd;exact⟨v0,k1,dx k2 rfl⟩
noncomputable def xH:List (Nat×Spec):=(163,xp)::(166,xG)::xE
theorem LC:cA Tryz.prog gl (bm xH):=aP aaG (aP abv LB)
structure xI (T:List (Nat×Spec)):Prop extends xF T where
 abx:∀ar h,bm T 163 ar h=xp ar h
 aby:∀ar h,bm T 166 ar h=xG ar h
theorem xI.c (E:xI T){N:Nat}(h1:1<=N)(hN:N<=500000):lJ (aX Tryz.prog FT T) N:={ E.toxF.c h1 hN with
 CZ:=fun s h hl=>(E.abx _ _).trans (aaH s 47 h hl)
 Da:=by simp only[E.aby];exact abw h1 hN }
theorem eFm:xI xH:=by repeat' first|exact fun _ _=>rfl|constructor
noncomputable def Dv:Spec:=sK xH 103
theorem abA:aS Tryz.prog gl 103 Dv:=bg LC
theorem abB {N:Nat}(h1:1<=N)(hN:N<=400000):∀q,Lq N q->∃v0,bI v0 q/\∀h,Dv [.str (aQ q)] h=some ⟨v0,h,[]⟩:=fun q lq=>by
 obtain⟨v0,k1,k2⟩:=ZS (eFm.c h1 (by omega)) hN lq;exact⟨v0,k1,dx k2 rfl⟩
noncomputable def xJ:List (Nat×Spec):=(162,Dj)::(164,Dm)::(165,sr)::(97,pP)::(96,pQ)::xH
theorem abC:cA Tryz.prog gl (bm xJ):=aP aaC (aP aaN (aP Jl (aP Tp (aP Ts LC))))
theorem eCk:xI xJ:=by repeat' first|exact fun _ _=>rfl|constructor
theorem abE {v:AV}{h:ab}{l:List Int}(hl:kZ h v=some l)(hn:l.length<1000):pQ [v] h=some ⟨.iV (ik l),h,[]⟩:=by
 simp only[pQ,hl];rw[if_pos (by omega)]
theorem cCk:Dd (aX Tryz.prog FT xJ) 600:={ eCk.c (by decide) (by decide) with
  KZ:=fun s h hl=>aaE s 45 h hl
  De:=fun s h hl=>aaR s h hl
  sc:=fun a b x y ha hb hx hy=>Jm (by decide) (by decide) a b x y ha hb hx hy
  sI:=fun _ _ _=>rfl
  sJ:=fun v h l hl hn=>abE hl hn }
noncomputable def Dw:Spec:=sK xJ 84
theorem abG:aS Tryz.prog gl 84 Dw:=bg abC
theorem LD:∀(s:an) h,s.length<1000000->Dw [.str s] h=some ⟨.iV (gC s),h,[]⟩:=fun s h hl=>bP (ZY cCk (Nat.le_refl _) s hl) rfl rfl rfl h
noncomputable def xK:List (Nat×Spec):=[(84,Dw),(103,Dv),(160,Cn),(159,sn),(105,xC)]
theorem abH:cA Tryz.prog gl (bm xK):=aP abG (aP abA (aP Xr (aP Ji (aP Lz bx))))
noncomputable def Dx:Spec:=sK xK 79
theorem abI:aS Tryz.prog gl 79 Dx:=bg abH
theorem k79:∀p h,Dq 200 p->Dx [.str (aQ p)] h=some ⟨.aq [.str (aQ (lK p)),.iV 0],h,[]⟩:=fun p h hp=>by
 have l1:=Db (hp.lq (N:=201) (by decide) (by decide));have c1:=aaf (by decide) (by decide) hp;obtain⟨v1,a1,q1⟩:=abB (N:=201) (by decide) (by decide) p (hp.lq (by decide) (by decide));obtain⟨v2,a2,q2⟩:=Xu (N:=1000) (by decide) (by decide) v1 p a1 (hp.bq (by decide));obtain⟨v3,a3,q3⟩:=Jj v2 _ a2;have a3:bI v3 (lK p):=by
  unfold bI;rw[(xc p).1,(xc p).2];exact a3
 exact bP (w79 (M:=aX Tryz.prog FT xK) bj (fun h=>by have:=LD (aQ p) h (by omega);rw[c1]at this;exact this) q1 q2 q3 (fun h=>LA v3 _ a3 (hp.floor.mono (by decide)) h)) rfl rfl rfl h
end Go.Ab.Ch1

/-
  Own work: the code of functions: the reference numbers: check.
-/
namespace Go.Ab.Ch1
set_option maxRecDepth 1000000
def LF:al:=zR [zi 1 0] (zR [zm 8 0,zw 2 8] (.seq (zR [zm 9 2,zL 10 9,zc 11 .gtr 10 0,zn 12 11,zg (zm 13 2) 12 true,⟨.l 14,.index (.l 13) (kI 0),some ((.l 12),true)⟩,⟨.l 15,.bin .eql (.l 14) (.c (.int .u8 (45))),some ((.l 12),true)⟩,zp 16 12 15] (.cond (.l 16) (.region [zm 17 2,⟨.l 18,.slice .str 1 (.l 17) (some (kI 1)) none none,none⟩,zw 2 18]) (.skip))) (zR [zm 19 2,z1 20 153 19,zw 3 20] (.seq (zR [zm 21 2,zm 22 3,⟨.l 23,.slice .str 1 (.l 21) none (some (.l 22)) none,none⟩,z1 24 154 23,zu 25 24,zn 26 25,zg (zm 27 0) 26 false,⟨.l 28,.index (.l 27) (kI 0),some ((.l 26),false)⟩,⟨.l 29,.bin .eql (.l 28) (.c (.int .u8 (45))),some ((.l 26),false)⟩,zg (zn 30 29) 26 false,zg (zm 31 2) 30 true,zg (zm 32 3) 30 true,⟨.l 33,.slice .str 1 (.l 31) none (some (.l 32)) none,some ((.l 30),true)⟩,⟨.l 34,.bin .eql (.l 33) (.c (.str [48])),some ((.l 30),true)⟩,zg (zp 35 30 34) 26 false,zP 36 26 35] (.cond (.l 36) (zR [zi 1 1] (.ret)) (.skip))) (.seq (zR [zm 37 3,zm 38 2,zL 39 38,zb 40 .lss 37 39,zn 41 40,zg (zm 42 2) 41 true,zg (zm 43 3) 41 true,zg (zc 44 .add 43 1) 41 true,⟨.l 45,.slice .str 1 (.l 42) (some (.l 44)) none none,some ((.l 41),true)⟩,zg (z1 46 154 45) 41 true,zg (zu 47 46) 41 true,zg (zn 48 47) 41 true,zg (zm 49 2) 48 false,zg (zm 50 3) 48 false,zg (zc 51 .add 50 1) 48 false,⟨.l 52,.slice .str 1 (.l 49) (some (.l 51)) none none,some ((.l 48),false)⟩,⟨.l 53,.bin .eql (.l 52) (.c (.str [48])),some ((.l 48),false)⟩,zg (zP 54 48 53) 41 true,zg (zn 55 54) 41 true,zg (zm 56 2) 55 false,zg (zm 57 3) 55 false,zg (zc 58 .add 57 1) 55 false,⟨.l 59,.slice .str 1 (.l 56) (some (.l 58)) none none,some ((.l 55),false)⟩,⟨.l 60,.bin .eql (.l 59) (.c (.str [49])),some ((.l 55),false)⟩,zg (zP 61 55 60) 41 true,zp 62 41 61] (.cond (.l 62) (zR [zi 1 1] (.ret)) (.skip))) (.seq (zR [zm 63 3,zc 64 .gtr 63 600,zn 65 64,zg (zm 66 2) 65 false,zg (zL 67 66) 65 false,zg (zm 68 3) 65 false,zg (zb 69 .sub 67 68) 65 false,zg (zc 70 .sub 69 1) 65 false,zg (zc 71 .gtr 70 600) 65 false,zP 72 65 71] (.cond (.l 72) (zR [zi 1 4] (.ret)) (.skip))) (.seq (zR [zm 73 3,zm 74 2,zL 75 74,zb 76 .lss 73 75] (.cond (.l 76) (zR [zm 78 2,z1 79 135 78,zn 77 79,ze 80 0 77,ze 81 1 77,⟨.p 4,.alloc 162 [.bool false,.ae],none⟩,⟨.p 5,.alloc 162 [.bool false,.ae],none⟩,zs 2 4 80,zs 2 5 81] (zR [zf 82 1 4,zd 83 1 82,zf 84 1 5,zd 85 1 84,z2 86 155 83 85,zw 6 86] (zR [zm 87 6,zl 88 87,zc 89 .neq 88 1,zn 90 89,zg (zm 91 6) 90 false,⟨.l 92,.cP none 1 (.l 91) (kI 0),some ((.l 90),false)⟩,zg (zd 93 1 92) 90 false,zg (zc 94 .neq 93 1) 90 false,zP 95 90 94] (.cond (.l 95) (zR [zi 1 1] (.ret)) (.skip))))) (.skip))) (zR [zi 1 0] (.ret)))))))))
theorem abK:FT 62=some ⟨96,[0,2,3,4,5,6,7],[.var (.p 1)],LF⟩:=by kernel_rfl
def sP:al:=.seq (zR [zm 4 2,zm 5 0,zL 6 5,zb 7 .lss 4 6] (.cond (.l 7) (.skip) (.exit 0))) (.seq (.block 1 (zR [zm 10 0,zm 11 2,⟨.l 12,.index (.l 10) (.l 11),none⟩,⟨.l 13,.bin .eql (.l 12) (.c (.int .u8 (47))),none⟩] (.cond (.l 13) (zR [zm 14 2,zw 1 14] (.ret)) (.skip)))) (.region [zm 8 2,zc 9 .add 8 1,zw 2 9]))
def LG:al:=zR [zi 1 0] (.seq (zR [zi 2 0] (.block 0 (.loop sP))) (zR [zm 15 0,zL 16 15,zw 1 16] (.ret)))
theorem abL:FT 153=some ⟨17,[0,2,3],[.var (.p 1)],LG⟩:=by kernel_rfl
def sQ:al:=zR [⟨.p 1,.mv (.c (.bool false)),none⟩] (.seq (zR [zm 3 0,zL 4 3,zc 5 .eql 4 0,zn 6 5,zg (zm 7 0) 6 false,zg (zL 8 7) 6 false,zg (zc 9 .gtr 8 1) 6 false,zg (zn 10 9) 6 false,zg (zm 11 0) 10 true,⟨.l 12,.index (.l 11) (kI 0),some ((.l 10),true)⟩,⟨.l 13,.bin .eql (.l 12) (.c (.int .u8 (48))),some ((.l 10),true)⟩,zg (zp 14 10 13) 6 false,zP 15 6 14] (.cond (.l 15) (zR [⟨.p 1,.mv (.c (.bool false)),none⟩] (.ret)) (.skip))) (zR [zm 16 0,z1 17 204 16,zw 1 17] (.ret)))
theorem abM:FT 154=some ⟨18,[0,2],[.var (.p 1)],sQ⟩:=by kernel_rfl
def sR:al:=.seq (zR [zm 4 2,zm 5 0,zL 6 5,zb 7 .lss 4 6] (.cond (.l 7) (.skip) (.exit 0))) (.seq (.block 1 (zR [zm 10 0,zm 11 2,⟨.l 12,.index (.l 10) (.l 11),none⟩,⟨.l 13,.bin .lss (.l 12) (.c (.int .u8 (48))),none⟩,zn 14 13,zg (zm 15 0) 14 false,zg (zm 16 2) 14 false,⟨.l 17,.index (.l 15) (.l 16),some ((.l 14),false)⟩,⟨.l 18,.bin .gtr (.l 17) (.c (.int .u8 (57))),some ((.l 14),false)⟩,zP 19 14 18] (.cond (.l 19) (zR [⟨.p 1,.mv (.c (.bool false)),none⟩] (.ret)) (.skip)))) (.region [zm 8 2,zc 9 .add 8 1,zw 2 9]))
def LH:al:=zR [⟨.p 1,.mv (.c (.bool false)),none⟩] (.seq (zR [zi 2 0] (.block 0 (.loop sR))) (zR [⟨.p 1,.mv (.c (.bool true)),none⟩] (.ret)))
theorem abN:FT 204=some ⟨20,[0,2,3],[.var (.p 1)],LH⟩:=by kernel_rfl
def Dy:al:=zR [⟨.p 1,.alloc 162 [.bool false,.ae],none⟩,⟨.p 2,.alloc 162 [.bool false,.ae],none⟩] (zR [zm 6 0,zw 3 6] (zR [zm 7 3,z1 8 153 7,zw 4 8] (.seq (zR [zm 9 4,zm 10 3,zL 11 10,zb 12 .eql 9 11] (.cond (.l 12) (zR [zm 13 3,z1 14 193 13,⟨.l 15,.call (kF 139) [(kI 1)],none⟩,zs 2 1 14,zs 2 2 15] (.ret)) (.skip))) (.seq (.draw [(zm 16 3,[]),(zm 17 4,[0]),(⟨.l 18,.slice .str 1 (.l 16) none (some (.l 17)) none,none⟩,[]),(z1 19 193 18,[]),(zm 20 3,[0,1,2,3]),(zm 21 4,[0,1,2,3,4]),(zc 22 .add 21 1,[0,1,2,3,4]),(⟨.l 23,.slice .str 1 (.l 20) (some (.l 22)) none none,none⟩,[0,1,2,3]),(z1 24 193 23,[]),(zs 2 1 19,[]),(zs 2 2 24,[])]) (.ret)))))
theorem LJ:FT 135=some ⟨25,[0,2,3,4,5],[.cell 2 true (.p 1),.cell 2 true (.p 2)],Dy⟩:=by kernel_rfl
def sS:al:=.seq (zR [zm 16 0,zL 17 16,zc 18 .gtr 17 9] (.cond (.l 18) (.skip) (.exit 0))) (.block 1 (zR [zm 19 3,zm 20 0,zm 21 0,zL 22 21,zc 23 .sub 22 9,⟨.l 24,.slice .str 1 (.l 20) (some (.l 23)) none none,none⟩,z1 25 192 24,⟨.l 26,.dZ 3 1 1 [.iV (0)] [(0,1,(.l 25))],none⟩,⟨.l 27,.append 3 1 8 (.l 19) (.l 26),none⟩,zw 3 27] (.region [zm 28 0,zm 29 0,zL 30 29,zc 31 .sub 30 9,⟨.l 32,.slice .str 1 (.l 28) none (some (.l 31)) none,none⟩,zw 0 32])))
def LK:al:=zR [⟨.p 1,.alloc 162 [.bool false,.ae],none⟩] (zR [zm 5 0,zL 6 5,zc 7 .gtr 6 0,zn 8 7,zg (zm 9 0) 8 true,⟨.l 10,.index (.l 9) (kI 0),some ((.l 8),true)⟩,⟨.l 11,.bin .eql (.l 10) (.c (.int .u8 (45))),some ((.l 8),true)⟩,zp 12 8 11,zw 2 12] (.seq (zR [zm 13 2] (.cond (.l 13) (.region [zm 14 0,⟨.l 15,.slice .str 1 (.l 14) (some (kI 1)) none none,none⟩,zw 0 15]) (.skip))) (zR [⟨.p 3,.mv (.c (.ae)),none⟩] (.seq (.block 0 (.loop sS)) (zR [zm 33 2,zm 34 3,zm 35 0,z1 36 192 35,⟨.l 37,.dZ 3 1 1 [.iV (0)] [(0,1,(.l 36))],none⟩,⟨.l 38,.append 3 1 8 (.l 34) (.l 37),none⟩,z2 39 196 33 38,zs 2 1 39] (.ret))))))
theorem abO:FT 193=some ⟨40,[0,2,3,4],[.cell 2 true (.p 1)],LK⟩:=by kernel_rfl
def xL:al:=.seq (zR [zm 5 3,zm 6 0,zL 7 6,zb 8 .lss 5 7] (.cond (.l 8) (.skip) (.exit 0))) (.seq (.block 1 (.region [zm 11 2,⟨.l 12,.bin .mul (kI 10) (.l 11),none⟩,zm 13 0,zm 14 3,⟨.l 15,.index (.l 13) (.l 14),none⟩,⟨.l 16,.dz .i64 (.l 15),none⟩,zb 17 .add 12 16,zc 18 .sub 17 48,zw 2 18])) (.region [zm 9 3,zc 10 .add 9 1,zw 3 10]))
def LL:al:=zR [zi 1 0] (zR [zi 2 0] (.seq (zR [zi 3 0] (.block 0 (.loop xL))) (zR [zm 19 2,zw 1 19] (.ret))))
theorem abP:FT 192=some ⟨20,[0,2,3,4],[.var (.p 1)],LL⟩:=by kernel_rfl
def qy:al:=.seq (zR [zm 8 0,zc 9 .neq 8 0] (.cond (.l 9) (.skip) (.exit 0))) (.block 1 (zR [zm 10 0,zc 11 .rem 10 1000000000,zw 4 11] (.seq (zR [zm 12 4,zc 13 .lss 12 0] (.cond (.l 13) (.region [zm 14 4,⟨.l 15,.bin .sub (kI 0) (.l 14),none⟩,zw 4 15]) (.skip))) (zR [zm 16 2,zm 17 4,⟨.l 18,.dZ 3 1 1 [.iV (0)] [(0,1,(.l 17))],none⟩,⟨.l 19,.append 3 1 8 (.l 16) (.l 18),none⟩,zw 2 19] (.region [zm 20 0,zc 21 .quo 20 1000000000,zw 0 21])))))
def Dz:al:=zR [⟨.p 1,.alloc 162 [.bool false,.ae],none⟩] (zR [⟨.p 2,.mv (.c (.ae)),none⟩] (zR [zm 6 0,zc 7 .lss 6 0,zw 3 7] (.seq (.block 0 (.loop qy)) (zR [zm 22 3,zm 23 2,z2 24 196 22 23,zs 2 1 24] (.ret)))))
theorem abQ:FT 139=some ⟨25,[0,2,3,4,5],[.cell 2 true (.p 1)],Dz⟩:=by kernel_rfl
def sV:al:=zR [⟨.p 2,.alloc 162 [.bool false,.ae],none⟩] (zR [zm 5 1,z1 6 242 5,zw 1 6] (zR [zm 7 0,zn 8 7,zg (zm 9 1) 8 true,zg (zl 10 9) 8 true,zg (zc 11 .gtr 10 0) 8 true,zp 12 8 11,zm 13 1,⟨.l 14,.build [.bool false,.ae] [(0,1,(.l 12)),(1,1,(.l 13))],none⟩,zs 2 2 14] (.ret)))
theorem xM:FT 196=some ⟨15,[0,1,4],[.cell 2 true (.p 2)],sV⟩:=by kernel_rfl
def jr:al:=.seq (zR [zm 3 0,zl 4 3,zc 5 .gtr 4 0,zn 6 5,zg (zm 7 0) 6 true,zg (zm 8 0) 6 true,zg (zl 9 8) 6 true,zg (zc 10 .sub 9 1) 6 true,zg (za 11 1 7 10) 6 true,zg (zd 12 1 11) 6 true,zg (zc 13 .eql 12 0) 6 true,zp 14 6 13] (.cond (.l 14) (.skip) (.exit 0))) (.block 1 (.region [zm 15 0,zm 16 0,zl 17 16,zc 18 .sub 17 1,⟨.l 19,.slice .sl 1 (.l 15) none (some (.l 18)) none,none⟩,zw 0 19]))
def sW:al:=zR [⟨.p 1,.mv (.c (.ae)),none⟩] (.seq (.block 0 (.loop jr)) (zR [zm 20 0,zw 1 20] (.ret)))
theorem xN:FT 242=some ⟨21,[0,2],[.var (.p 1)],sW⟩:=by kernel_rfl
def sX:al:=.seq (zR [zm 7 1,zl 8 7,zc 9 .gtr 8 0] (.cond (.l 9) (.skip) (.exit 0))) (.block 1 (zR [zm 11 0,zm 12 1,z2 13 195 11 12,zn 10 13,ze 14 0 10,ze 15 1 10,zn 5 14,zw 3 15] (.region [zm 16 1,zm 17 3,zw 0 16,zw 1 17])))
def DA:al:=zR [⟨.p 2,.mv (.c (.ae)),none⟩] (.seq (.block 0 (.loop sX)) (zR [zm 18 0,zw 2 18] (.ret)))
theorem LM:FT 155=some ⟨19,[0,1,4,6],[.var (.p 2)],DA⟩:=by kernel_rfl
def xO:al:=.seq (zR [zm 63 9,zl 64 63,zm 65 0,zl 66 65,zc 67 .add 66 1,zb 68 .lss 64 67] (.cond (.l 68) (.skip) (.exit 0))) (.block 1 (.region [zm 69 9,⟨.l 70,.dZ 3 1 1 [.iV (0)] [(0,1,(kI 0))],none⟩,⟨.l 71,.append 3 1 8 (.l 69) (.l 70),none⟩,zw 9 71]))
def xP:al:=.seq (zR [zm 90 14,zm 91 8,zb 92 .lss 90 91] (.cond (.l 92) (.skip) (.exit 4))) (.seq (.block 5 (zR [zm 95 12,zm 96 7,zm 97 14,za 98 1 96 97,zd 99 1 98,zb 100 .mul 95 99,zm 101 13,zb 102 .add 100 101,zw 15 102] (zR [zm 103 9,zm 104 14,zm 105 11,zb 106 .add 104 105,za 107 1 103 106,zd 108 1 107,zm 109 15,zc 110 .rem 109 1000000000,zb 111 .sub 108 110,zw 16 111] (zR [zm 112 15,zc 113 .quo 112 1000000000,zw 13 113] (.seq (zR [zm 114 16,zc 115 .lss 114 0] (.cond (.l 115) (zR [zm 116 16,zc 117 .add 116 1000000000,zw 16 117] (.region [zm 118 13,zc 119 .add 118 1,zw 13 119])) (.skip))) (.region [zm 120 9,zm 121 14,zm 122 11,zb 123 .add 121 122,zm 124 16,za 125 1 120 123,zS 1 125 124])))))) (.region [zm 93 14,zc 94 .add 93 1,zw 14 94]))
def xQ:al:=.seq (zR [zm 148 18,zm 149 8,zb 150 .lss 148 149] (.cond (.l 150) (.skip) (.exit 6))) (.seq (.block 7 (.seq (.draw [(zm 153 9,[]),(zm 154 18,[0]),(zm 155 11,[0,1]),(zb 156 .add 154 155,[0]),(za 157 1 153 156,[]),(zd 158 1 157,[]),(zm 159 7,[0,1,2,3,4,5]),(zm 160 18,[0,1,2,3,4,5,6]),(za 161 1 159 160,[0,1,2,3,4,5]),(zd 162 1 161,[0,1,2,3,4,5]),(zb 163 .add 158 162,[]),(zm 164 17,[0,1,2,3,4,5,6,7,8,9,10]),(zb 165 .add 163 164,[]),(zw 19 165,[])]) (zR [zm 166 9,zm 167 18,zm 168 11,zb 169 .add 167 168,zm 170 19,zc 171 .rem 170 1000000000,za 172 1 166 169,zS 1 172 171] (.region [zm 173 19,zc 174 .quo 173 1000000000,zw 17 174])))) (.region [zm 151 18,zc 152 .add 151 1,zw 18 152]))
def xR:al:=.seq (zR [zm 82 11,zc 83 .geq 82 0] (.cond (.l 83) (.skip) (.exit 2))) (.seq (.block 3 (zR [zm 86 9,zm 87 7,zm 88 11,⟨.l 89,.call (kF 243) [(.l 86),(.l 87),(.l 88)],none⟩,zw 12 89] (zR [zi 13 0] (.seq (zR [zi 14 0] (.block 4 (.loop xP))) (zR [zm 126 9,zm 127 11,zm 128 8,zb 129 .add 127 128,zm 130 9,zm 131 11,zm 132 8,zb 133 .add 131 132,za 134 1 130 133,zd 135 1 134,zm 136 13,zb 137 .sub 135 136,za 138 1 126 129,zS 1 138 137] (.seq (zR [zm 139 9,zm 140 11,zm 141 8,zb 142 .add 140 141,za 143 1 139 142,zd 144 1 143,zc 145 .lss 144 0] (.cond (.l 145) (zR [zm 146 12,zc 147 .sub 146 1,zw 12 147] (zR [zi 17 0] (.seq (zR [zi 18 0] (.block 6 (.loop xQ))) (.region [zm 175 9,zm 176 11,zm 177 8,zb 178 .add 176 177,zm 179 9,zm 180 11,zm 181 8,zb 182 .add 180 181,za 183 1 179 182,zd 184 1 183,zm 185 17,zb 186 .add 184 185,za 187 1 175 178,zS 1 187 186])))) (.skip))) (.region [zm 188 10,zm 189 11,zm 190 12,za 191 1 188 189,zS 1 191 190]))))))) (.region [zm 84 11,zc 85 .sub 84 1,zw 11 85]))
def DB:al:=zR [⟨.p 2,.mv (.c (.ae)),none⟩,⟨.p 3,.mv (.c (.ae)),none⟩] (.seq (zR [zm 24 0,zm 25 1,z2 26 218 24 25,zc 27 .lss 26 0] (.cond (.l 27) (zR [zm 28 0,⟨.p 2,.mv (.c (.ae)),none⟩,zw 3 28] (.ret)) (.skip))) (.seq (zR [zm 29 1,zl 30 29,zc 31 .eql 30 1] (.cond (.l 31) (zR [zm 33 0,zm 34 1,⟨.l 35,.cP none 1 (.l 34) (kI 0),none⟩,zd 36 1 35,z2 37 241 33 36,zn 32 37,ze 38 0 32,ze 39 1 32,zw 4 38,zw 5 39] (zR [zm 40 4,zm 41 5,⟨.l 42,.dZ 3 1 1 [.iV (0)] [(0,1,(.l 41))],none⟩,z1 43 242 42,zw 2 40,zw 3 43] (.ret))) (.skip))) (zR [zm 44 1,zm 45 1,zl 46 45,zc 47 .sub 46 1,za 48 1 44 47,zd 49 1 48,zc 50 .add 49 1,⟨.l 51,.bin .quo (kI 1000000000) (.l 50),none⟩,⟨.l 52,.dZ 3 1 1 [.iV (0)] [(0,1,(.l 51))],none⟩,zw 6 52] (zR [zm 53 1,zm 54 6,z2 55 197 53 54,zw 7 55] (zR [zm 56 7,zl 57 56,zw 8 57] (zR [⟨.l 58,.dZ 3 0 1 [.iV (0)] [],none⟩,zm 59 0,zm 60 6,z2 61 197 59 60,⟨.l 62,.append 3 1 8 (.l 58) (.l 61),none⟩,zw 9 62] (.seq (.block 0 (.loop xO)) (zR [zm 72 9,zl 73 72,zm 74 8,zb 75 .sub 73 74,⟨.l 76,.gg 3 1 8 [.iV (0)] (.l 75) (.l 75),none⟩,zw 10 76] (.seq (zR [zm 77 9,zl 78 77,zm 79 8,zb 80 .sub 78 79,zc 81 .sub 80 1,zw 11 81] (.block 2 (.loop xR))) (.seq (.draw [(zm 193 9,[]),(zm 194 8,[0]),(⟨.l 195,.slice .sl 1 (.l 193) none (some (.l 194)) none,none⟩,[]),(z1 196 242 195,[]),(zm 197 6,[0,1,2,3]),(⟨.l 198,.cP none 1 (.l 197) (kI 0),none⟩,[0,1,2,3]),(zd 199 1 198,[0,1,2,3]),(z2 200 241 196 199,[]),(zn 192 200,[]),(ze 201 0 192,[]),(ze 202 1 192,[9]),(zw 20 201,[10]),(zn 23 202,[])]) (zR [zm 203 10,z1 204 242 203,zm 205 20,zw 2 204,zw 3 205] (.ret))))))))))))
theorem LN:FT 195=some ⟨206,[0,1,4,5,6,7,8,9,10,11,12,13,14,15,16,17,18,19,20,21,22],[.var (.p 2),.var (.p 3)],DB⟩:=by kernel_rfl
def qz:al:=.seq (zR [zm 19 3,zc 20 .geq 19 0] (.cond (.l 20) (.skip) (.exit 0))) (.seq (.block 1 (.seq (.seq (.draw [(zm 23 0,[]),(zm 24 3,[0]),(za 25 1 23 24,[]),(zd 26 1 25,[]),(zm 27 1,[0,1,2,3]),(zm 28 3,[0,1,2,3,4]),(za 29 1 27 28,[0,1,2,3]),(zd 30 1 29,[0,1,2,3]),(zb 31 .lss 26 30,[])]) (.cond (.l 31) (zR [zi 2 (-1)] (.ret)) (.skip))) (.seq (.draw [(zm 32 0,[]),(zm 33 3,[0]),(za 34 1 32 33,[]),(zd 35 1 34,[]),(zm 36 1,[0,1,2,3]),(zm 37 3,[0,1,2,3,4]),(za 38 1 36 37,[0,1,2,3]),(zd 39 1 38,[0,1,2,3]),(zb 40 .gtr 35 39,[])]) (.cond (.l 40) (zR [zi 2 1] (.ret)) (.skip))))) (.region [zm 21 3,zc 22 .sub 21 1,zw 3 22]))
def DC:al:=zR [zi 2 0] (.seq (zR [zm 6 0,zl 7 6,zm 8 1,zl 9 8,zb 10 .neq 7 9] (.cond (.l 10) (.seq (zR [zm 11 0,zl 12 11,zm 13 1,zl 14 13,zb 15 .lss 12 14] (.cond (.l 15) (zR [zi 2 (-1)] (.ret)) (.skip))) (zR [zi 2 1] (.ret))) (.skip))) (.seq (zR [zm 16 0,zl 17 16,zc 18 .sub 17 1,zw 3 18] (.block 0 (.loop qz))) (zR [zi 2 0] (.ret))))
theorem abR:FT 218=some ⟨41,[0,1,4,5],[.var (.p 2)],DC⟩:=by kernel_rfl
def xS:al:=.seq (zR [zm 22 6,zm 23 1,zl 24 23,zb 25 .lss 22 24] (.cond (.l 25) (.skip) (.exit 2))) (.seq (.block 3 (.seq (.draw [(zm 28 3,[]),(zm 29 4,[0]),(zm 30 6,[0,1]),(zb 31 .add 29 30,[0]),(za 32 1 28 31,[]),(zd 33 1 32,[]),(zm 34 0,[0,1,2,3,4,5]),(zm 35 4,[0,1,2,3,4,5,6]),(za 36 1 34 35,[0,1,2,3,4,5]),(zd 37 1 36,[0,1,2,3,4,5]),(zm 38 1,[0,1,2,3,4,5,6,7,8,9]),(zm 39 6,[0,1,2,3,4,5,6,7,8,9,10]),(za 40 1 38 39,[0,1,2,3,4,5,6,7,8,9]),(zd 41 1 40,[0,1,2,3,4,5,6,7,8,9]),(zb 42 .mul 37 41,[0,1,2,3,4,5]),(zb 43 .add 33 42,[]),(zm 44 5,[0,1,2,3,4,5,6,7,8,9,10,11,12,13,14,15]),(zb 45 .add 43 44,[]),(zw 7 45,[])]) (zR [zm 46 3,zm 47 4,zm 48 6,zb 49 .add 47 48,zm 50 7,zc 51 .rem 50 1000000000,za 52 1 46 49,zS 1 52 51] (.region [zm 53 7,zc 54 .quo 53 1000000000,zw 5 54])))) (.region [zm 26 6,zc 27 .add 26 1,zw 6 27]))
def xT:al:=.seq (zR [zm 16 4,zm 17 0,zl 18 17,zb 19 .lss 16 18] (.cond (.l 19) (.skip) (.exit 0))) (.seq (.block 1 (zR [zi 5 0] (.seq (zR [zi 6 0] (.block 2 (.loop xS))) (.region [zm 55 3,zm 56 4,zm 57 1,zl 58 57,zb 59 .add 56 58,zm 60 3,zm 61 4,zm 62 1,zl 63 62,zb 64 .add 61 63,za 65 1 60 64,zd 66 1 65,zm 67 5,zb 68 .add 66 67,za 69 1 55 59,zS 1 69 68])))) (.region [zm 20 4,zc 21 .add 20 1,zw 4 21]))
def DD:al:=zR [⟨.p 2,.mv (.c (.ae)),none⟩] (zR [zm 10 0,zl 11 10,zm 12 1,zl 13 12,zb 14 .add 11 13,⟨.l 15,.gg 3 1 8 [.iV (0)] (.l 14) (.l 14),none⟩,zw 3 15] (.seq (zR [zi 4 0] (.block 0 (.loop xT))) (zR [zm 70 3,z1 71 242 70,zw 2 71] (.ret))))
theorem LO:FT 197=some ⟨72,[0,1,4,5,6,7,8,9],[.var (.p 2)],DD⟩:=by kernel_rfl
def xU:al:=.seq (zR [zm 16 6,zc 17 .geq 16 0] (.cond (.l 17) (.skip) (.exit 0))) (.seq (.block 1 (zR [zm 20 5,zc 21 .mul 20 1000000000,zm 22 0,zm 23 6,za 24 1 22 23,zd 25 1 24,zb 26 .add 21 25,zw 7 26] (zR [zm 27 4,zm 28 6,zm 29 7,zm 30 1,zb 31 .quo 29 30,za 32 1 27 28,zS 1 32 31] (.region [zm 33 7,zm 34 1,zb 35 .rem 33 34,zw 5 35])))) (.region [zm 18 6,zc 19 .sub 18 1,zw 6 19]))
def LP:al:=zR [⟨.p 2,.mv (.c (.ae)),none⟩,zi 3 0] (zR [zm 10 0,zl 11 10,⟨.l 12,.gg 3 1 8 [.iV (0)] (.l 11) (.l 11),none⟩,zw 4 12] (zR [zi 5 0] (.seq (zR [zm 13 0,zl 14 13,zc 15 .sub 14 1,zw 6 15] (.block 0 (.loop xU))) (zR [zm 36 4,z1 37 242 36,zm 38 5,zw 2 37,zw 3 38] (.ret)))))
theorem abS:FT 241=some ⟨39,[0,1,4,5,6,7,8,9],[.var (.p 2),.var (.p 3)],LP⟩:=by kernel_rfl
def sY:al:=.seq (.seq (.draw [(zm 42 6,[]),(zc 43 .geq 42 1000000000,[]),(zn 44 43,[]),(zg (zm 45 6) 44 false,[]),(zg (zm 46 1) 44 false,[3]),(zg (zm 47 4) 44 false,[3,4]),(zg (zc 48 .sub 47 2) 44 false,[3,4]),(zg (za 49 1 46 48) 44 false,[3]),(zg (zd 50 1 49) 44 false,[3]),(zg (zb 51 .mul 45 50) 44 false,[]),(zg (zm 52 7) 44 false,[3,4,5,6,7,8,9]),(zg (zc 53 .mul 52 1000000000) 44 false,[3,4,5,6,7,8,9]),(zg (zm 54 0) 44 false,[3,4,5,6,7,8,9,10,11]),(zg (zm 55 2) 44 false,[3,4,5,6,7,8,9,10,11,12]),(zg (zm 56 4) 44 false,[3,4,5,6,7,8,9,10,11,12,13]),(zg (zb 57 .add 55 56) 44 false,[3,4,5,6,7,8,9,10,11,12]),(zg (zc 58 .sub 57 2) 44 false,[3,4,5,6,7,8,9,10,11,12]),(zg (za 59 1 54 58) 44 false,[3,4,5,6,7,8,9,10,11]),(zg (zd 60 1 59) 44 false,[3,4,5,6,7,8,9,10,11]),(zg (zb 61 .add 53 60) 44 false,[3,4,5,6,7,8,9]),(zg (zb 62 .gtr 51 61) 44 false,[]),(zP 63 44 62,[])]) (.cond (.l 63) (.skip) (.exit 0))) (.block 1 (zR [zm 64 6,zc 65 .sub 64 1,zw 6 65] (zR [zm 66 7,zm 67 1,zm 68 4,zc 69 .sub 68 1,za 70 1 67 69,zd 71 1 70,zb 72 .add 66 71,zw 7 72] (zR [zm 73 7,zc 74 .geq 73 1000000000] (.cond (.l 74) (zR [zm 75 6,zw 3 75] (.ret)) (.skip))))))
def LR:al:=zR [zi 3 0] (zR [zm 11 1,zl 12 11,zw 4 12] (.seq (.draw [(zm 13 0,[]),(zm 14 2,[0]),(zm 15 4,[0,1]),(zb 16 .add 14 15,[0]),(za 17 1 13 16,[]),(zd 18 1 17,[]),(zc 19 .mul 18 1000000000,[]),(zm 20 0,[0,1,2,3,4,5,6]),(zm 21 2,[0,1,2,3,4,5,6,7]),(zm 22 4,[0,1,2,3,4,5,6,7,8]),(zb 23 .add 21 22,[0,1,2,3,4,5,6,7]),(zc 24 .sub 23 1,[0,1,2,3,4,5,6,7]),(za 25 1 20 24,[0,1,2,3,4,5,6]),(zd 26 1 25,[0,1,2,3,4,5,6]),(zb 27 .add 19 26,[]),(zw 5 27,[])]) (.seq (.draw [(zm 28 5,[]),(zm 29 1,[0]),(zm 30 4,[0,1]),(zc 31 .sub 30 1,[0,1]),(za 32 1 29 31,[0]),(zd 33 1 32,[0]),(zb 34 .quo 28 33,[]),(zm 35 5,[0,1,2,3,4,5,6]),(zm 36 1,[0,1,2,3,4,5,6,7]),(zm 37 4,[0,1,2,3,4,5,6,7,8]),(zc 38 .sub 37 1,[0,1,2,3,4,5,6,7,8]),(za 39 1 36 38,[0,1,2,3,4,5,6,7]),(zd 40 1 39,[0,1,2,3,4,5,6,7]),(zb 41 .rem 35 40,[0,1,2,3,4,5,6]),(zw 6 34,[7,8,9,10,11,12,13]),(zw 7 41,[])]) (.seq (.block 0 (.loop sY)) (zR [zm 76 6,zw 3 76] (.ret))))))
theorem abT:FT 243=some ⟨77,[0,1,2,6,7,8,9,10],[.var (.p 3)],LR⟩:=by kernel_rfl
def LS:al:=zR [⟨.p 1,.mv (.c (.bool false)),none⟩] (zR [zm 3 0,z1 4 153 3,zm 5 0,zL 6 5,zb 7 .eql 4 6,zw 1 7] (.ret))
theorem abU:FT 92=some ⟨8,[0,2],[.var (.p 1)],LS⟩:=by kernel_rfl
def LU:al:=zR [zi 2 0] (.seq (zR [zm 5 1,zm 6 0,zl 7 6,zb 8 .lss 5 7] (.cond (.l 8) (zR [zm 9 0,zm 10 1,za 11 1 9 10,zd 12 1 11,zw 2 12] (.ret)) (.skip))) (zR [zi 2 0] (.ret)))
theorem abV:FT 254=some ⟨13,[0,1,4],[.var (.p 2)],LU⟩:=by kernel_rfl
end Go.Ab.Ch1

/-
  Own work: the reference's numbers: slashes, decimal forms, values of digits.
-/
namespace Go.Ab.Ch1
open Go.Ab.aY
variable {M:ax} {cap:Option Nat} {N N2:Nat}
theorem LV {s:an}{i:Nat}(h:i<s.length):s.drop i=s[i]! :: s.drop (i+1):=by
 rw[List.drop_eq_getElem_cons h,getElem!_pos s i h]
def js (s:an):Bool:=(bE 47 s).2.isSome
def cw (s:an):Nat:=(bE 47 s).1.length
theorem xV (s:an):cw s<=s.length:=sN 47 s
theorem abW (hft:M.FT=FT)(s:an)(hl:s.length<1000000):aT M 153 [.str s] [] ⟨.iV (cw s),[],[]⟩:=by
 refine bH (by rw[hft];exact abL) (by simp) ?_;have loop:∀(r i:Nat) (lo:List (Nat×AV)) (wr:List Nat) {Q:Ex->ao->Prop} (a1:AV),i+r=s.length->i+cw (s.drop i)=cw s ->
  (cw s<s.length->∀lo wr,Q .ret ⟨⟨[.str s,.iV (cw s),.iV (cw s)],lo,[],[]⟩,wr⟩) ->
  (cw s=s.length->∀lo wr,Q (.exit 0) ⟨⟨[.str s,a1,.iV s.length],lo,[],[]⟩,wr⟩) ->
  W M (.loop sP) ⟨⟨[.str s,a1,.iV i],lo,[],[]⟩,wr⟩ Q:=by
  intro r;induction r with
  | zero=>
   intro i lo wr Q a1 hi he h1 h2;obtain rfl:i=s.length:=by omega
   rw[List.drop_length]at he;have e0:cw ([]:an)=0:=rfl;refine W.loop ?_;unfold sP;exact gg4
  | succ r ih=>
   intro i lo wr Q a1 hi he h1 h2;have hd:=LV (s:=s) (i:=i) (by omega);refine W.loop ?_;by_cases h47:s[i]! = 47
   . have e1:cw (s.drop i)=0:=by rw[hd,h47];simp[cw,bE]
     have e2:cw s=i:=by omega
     have e47:((s[((i:Int)).toNat]!).toNat:Int)=47:=by rw[show s[((i:Int)).toNat]! = s[i]! from rfl,h47];rfl
     rw[e2]at h1;unfold sP;exact gg1
   . have e1:cw (s.drop i)=1+cw (s.drop (i+1)):=by
      rw[hd];simp only[cw,bE,if_neg h47,List.length_cons];omega
     have e47:((s[((i:Int)).toNat]!).toNat:Int)≠47:=fun e=>h47 (UInt8.toNat_inj.1 (by
                                                                                                  rw[show s[((i:Int)).toNat]! = s[i]! from rfl]at e;have:(47:UInt8).toNat=47:=rfl;omega))
     unfold sP;exact gg5
 unfold LG;simp only[enter];refine gg3 ?_;refine loop s.length 0 _ _ _ (by omega) (by simp) (fun h lo wr=>?_) (fun h lo wr=>?_)
 . exact gg1
 . rw[h];exact gg8
theorem abX (hft:M.FT=FT)(s:an)(hl:s.length<1000000):aT M 204 [.str s] [] ⟨.bool (s.all bF),[],[]⟩:=by
 refine bH (by rw[hft];exact abN) (by simp) ?_;have loop:∀(r i:Nat) (lo:List (Nat×AV)) (wr:List Nat) {Q:Ex->ao->Prop} (a1:AV),i+r=s.length->s.all bF=(s.drop i).all bF ->
  (s.all bF=false->∀lo wr a2,Q .ret ⟨⟨[.str s,.bool false,a2],lo,[],[]⟩,wr⟩) ->
  (s.all bF=true->∀lo wr a2,Q (.exit 0) ⟨⟨[.str s,a1,a2],lo,[],[]⟩,wr⟩) ->
  W M (.loop sR) ⟨⟨[.str s,a1,.iV i],lo,[],[]⟩,wr⟩ Q:=by
  intro r;induction r with
  | zero=>
   intro i lo wr Q a1 hi he h1 h2;obtain rfl:i=s.length:=by omega
   rw[List.drop_length]at he;refine W.loop ?_;unfold sR;exact gg4
  | succ r ih=>
   intro i lo wr Q a1 hi he h1 h2;have hd:=LV (s:=s) (i:=i) (by omega);rw[hd,List.all_cons]at he;have ei:s[((i:Int)).toNat]! = s[i]! := rfl;refine W.loop ?_;cases hb:bF s[i]! with
   | false=>
    rw[hb,Bool.false_and]at he;have hne:¬(48<=(s[i]!).toNat/\(s[i]!).toNat<58):=fun h=>by rw[(kn _).2 h]at hb;cases hb
    rw[←ei]at hne;unfold sR;exact gg9
   | true=>
    rw[hb,Bool.true_and]at he;have hne:=(kn _).1 hb;rw[←ei]at hne;unfold sR;exact gg5
 unfold LH;simp only[enter];refine gg3 ?_;refine loop s.length 0 _ _ _ (by omega) (by simp) (fun h lo wr a2=>?_) (fun h lo wr a2=>?_)
 . rw[h];exact gg1
 . rw[h];exact gg9
theorem abY (hft:M.FT=FT)(s:an)(hl:s.length<1000000)(q204:∀h,M.ext 204 [.str s] h=some ⟨.bool (s.all bF),h,[]⟩):aT M 154 [.str s] [] ⟨.bool (dF s),[],[]⟩:=by
 refine bH (by rw[hft];exact abM) (by simp) ?_;by_cases h0:s=[]
 . subst h0;have hl0:([]:an).length=0:=rfl;rw[show dF []=false from rfl];unfold sQ;simp only[enter];exact gg11
 . have hpos:0<s.length:=List.length_pos_iff.2 h0;have ei:s[(0:Int).toNat]! = s[0]! := rfl;have hdec:dF s=(s.all bF && (decide (s[0]! ≠ 48) || decide (s=[48]))):=by rw[dF,decide_eq_true h0,Bool.true_and]
   by_cases h48:s[0]! = 48
   . have e48:((s[(0:Int).toNat]!).toNat:Int)=48:=by rw[ei,h48];rfl
     by_cases hl1:s.length=1
     . have hs:s=[48]:=by
        cases s with
        | nil=>exact absurd rfl h0
        | cons c t=>
         have:t=[]:=List.eq_nil_of_length_eq_zero (by simpa using hl1);subst this;have:c=48:=h48;rw[this]
       rw[hdec,decide_eq_true hs,Bool.or_true,Bool.and_true];unfold sQ;simp only[enter];exact gg11
     . have hs:¬s=[48]:=fun e=>hl1 (by rw[e];rfl)
       rw[hdec,decide_eq_false hs,decide_eq_false (by simpa using h48),Bool.or_self,Bool.and_false];unfold sQ;simp only[enter];exact gg5
   . have e48:((s[(0:Int).toNat]!).toNat:Int)≠48:=fun e=>h48 (UInt8.toNat_inj.1 (by rw[ei]at e;have:(48:UInt8).toNat=48:=rfl;omega))
     rw[hdec,decide_eq_true (show s[0]! ≠ 48 from h48),Bool.true_or,Bool.and_true];unfold sQ;simp only[enter];exact gg5
theorem abZ {s:an}(h:s.all bF=true)(hl:s.length<=18)(i:Nat)(hi:i<=s.length):ay 0 (s.take i)<1000000000000000000:=by
 refine KS ?_ (by rw[List.length_take];omega);rw[List.all_eq_true]at h ⊢;exact fun x hx=>h x (List.mem_of_mem_take hx)
theorem aca (hft:M.FT=FT)(s:an)(hl:s.length<=18)(hd:s.all bF=true):aT M 192 [.str s] [] ⟨.iV (ay 0 s:Nat),[],[]⟩:=by
 refine bH (by rw[hft];exact abP) (by simp) ?_;have loop:∀(r i:Nat) (lo:List (Nat×AV)) (wr:List Nat) {Q:Ex->ao->Prop} (a1:AV),i+r=s.length ->
  (∀lo wr,Q (.exit 0) ⟨⟨[.str s,a1,.iV (ay 0 s:Nat),.iV s.length],lo,[],[]⟩,wr⟩) ->
  W M (.loop xL) ⟨⟨[.str s,a1,.iV (ay 0 (s.take i):Nat),.iV i],lo,[],[]⟩,wr⟩ Q:=by
  intro r;induction r with
  | zero=>
   intro i lo wr Q a1 hi hQ;obtain rfl:i=s.length:=by omega
   rw[List.take_length];refine W.loop ?_;unfold xL;exact gg4
  | succ r ih=>
   intro i lo wr Q a1 hi hQ;have uK:=abZ hd hl (i+1) (by omega);have hb:=(kn _).1 ((List.all_eq_true.1 hd) s[i]! (by rw[getElem!_pos s i (by omega)];exact List.getElem_mem (by omega)));have e1:ay 0 (s.take (i+1))=10*ay 0 (s.take i)+((s[i]!).toNat-48):=by
    rw[List.take_add_one,List.getElem?_eq_getElem (by omega),Option.toList_some,ot,sv,getElem!_pos s i (by omega)]
   have ei:s[((i:Int)).toNat]! = s[i]! := rfl;rw[←ei]at hb e1;have ih':=ih (i+1);generalize ay 0 (s.take (i+1))=m at *
   generalize ay 0 (s.take i)=n at *
   have e2:(m:Int)=10*n+((s[((i:Int)).toNat]!).toNat:Int)-48:=by omega
   rw[e2]at ih';refine W.loop ?_;unfold xL;exact gg12
 unfold LL;simp only[enter];refine gg3 ?_;refine loop s.length 0 _ _ _ (by omega) (fun lo wr=>?_);exact gg8
theorem w92 (hft:M.FT=FT)(s:an)(q153:∀h,M.ext 153 [.str s] h=some ⟨.iV (cw s),h,[]⟩):aT M 92 [.str s] [] ⟨.bool (decide (cw s=s.length)),[],[]⟩:=by
 refine bH (by rw[hft];exact abU) (by simp) ?_;unfold LS;simp only[enter];by_cases h:cw s=s.length
 . rw[decide_eq_true h];exact gg2
 . rw[decide_eq_false h];exact gg2
end Go.Ab.Ch1

/-
  Own work: digits to the base 10^9 in blocks.
-/
namespace Go.Ab.Ch1
open Go.Ab.aY
variable {M:ax} {cap c1 c2:Option Nat}
abbrev iC (x:Int):List AV:=[.iV x]
abbrev aj (l:List Int):List AV:=arr iC l
abbrev dB:Int:=1000000000
theorem LW {l:List Int}:(aj l).length=l.length:=by
 have:=pG (f:=iC) (esz:=1) (fun _=>rfl) l;simpa using this
theorem acd {l:List Int}{m:Nat}(h:m<l.length):(aj l)[m]? = some (.iV l[m]!):=by
 induction l generalizing m with
 | nil=>simp at h
 | cons x l ih=>
  cases m with
  | zero=>rfl
  | succ m=>
   have e:(x::l)[m+1]! = l[m]! := by simp[List.getElem!_eq_getElem?_getD]
   rw[e,←ih (by simpa using h)];rfl
section
variable {t b m:Nat} {x y:aL} {l:List aU} {pe:List AV} {lo:List (Nat×AV)} {hp:ab} {df wr:List Nat} {L:List Int} {e:TypeId} {v:Int} {Q:ao->Prop}
theorem agr (hx:(St.mk pe lo hp df).aa x=some (.ptr b m))(hb:hp.at b=some (.cells (aj L) e))(hi:m<L.length)
 (h:WO M l ⟨⟨pe,(t,.iV L[m]!)::lo,hp,df⟩,wr⟩ Q):WO M (⟨.l t,.load 1 false x,none⟩::l) ⟨⟨pe,lo,hp,df⟩,wr⟩ Q:=by
 refine afW (c:=aj L) (o:=m) (e:=e) (v:=.iV L[m]!) hx hb ?_ h;have h1:=acd hi;have h2:m<(aj L).length:=by rw[LW];exact hi
 rw[List.drop_eq_getElem_cons h2];rw[List.getElem?_eq_getElem h2]at h1;rw[Option.some.inj h1];rfl
theorem ace {L:List Int}{m:Nat}{v:Int}(h:m<L.length):overwrite (aj L) m (iC v)=aj (L.set m v):=by
 induction L generalizing m with
 | nil=>simp at h
 | cons x L ih=>
  cases m with
  | zero=>simp[overwrite,arr]
  | succ m=>
   have:=ih (m:=m) (by simpa using h);simp only[List.set_cons_succ];have e1:aj (x::L) = .iV x::aj L:=rfl;have e2:aj (x::L.set m v) = .iV x::aj (L.set m v):=rfl;rw[e1,e2,←this];simp[overwrite,Nat.add_right_comm]
theorem age (hx:(St.mk pe lo hp df).aa x=some (.ptr b m))(hy:(St.mk pe lo hp df).aa y=some (.iV v))(hb:hp.at b=some (.cells (aj L) e))(hi:m<L.length)
 (h:WO M l ⟨⟨pe,lo,hp.put b (some (.cells (aj (L.set m v)) e)),df⟩,b::wr⟩ Q):WO M (⟨.no,.store 1 x y,none⟩::l) ⟨⟨pe,lo,hp,df⟩,wr⟩ Q:=
 ade (c:=aj L) (new:=iC v) hx (by rw[hy];rfl) hb ⟨rfl,by rw[LW];omega,rfl⟩ (ace hi) h
end
def cM (hp:ab)(b:Nat)(e:TypeId)(P S X:List Int):ab:=hp.put b (some (.cells (aj (P++X++S)) e))
theorem LX {hp:ab}{b:Nat}{e:TypeId}{P S X:List Int}:(cM hp b e P S X).length=hp.length:=fj
section
variable {t bu bv m:Nat} {x y:aL} {l:List aU} {pe:List AV} {lo:List (Nat×AV)} {hp:ab} {df wr:List Nat} {P S X V Y:List Int} {e e':TypeId} {v:Int} {Q:ao->Prop}
theorem agH {i:Nat}(hx:(St.mk pe lo (cM hp bu e P S X) df).aa x=some (.ptr bu m))(hl:bu<hp.length)(hi:i<X.length)(hm:m=P.length+i)
 (h:WO M l ⟨⟨pe,(t,.iV X[i]!)::lo,cM hp bu e P S X,df⟩,wr⟩ Q):WO M (⟨.l t,.load 1 false x,none⟩::l) ⟨⟨pe,lo,cM hp bu e P S X,df⟩,wr⟩ Q:=by
 subst hm;refine agr (L:=P++X++S) (e:=e) hx (by unfold cM;exact dg hl) (by simp;omega) ?_;rw[BE hi];exact h
theorem agI {i:Nat}(hx:(St.mk pe lo (cM hp bu e P S X) df).aa x=some (.ptr bu m))(hy:(St.mk pe lo (cM hp bu e P S X) df).aa y=some (.iV v))(hl:bu<hp.length)(hi:i<X.length)(hm:m=P.length+i)
 (h:WO M l ⟨⟨pe,lo,cM hp bu e P S (X.set i v),df⟩,bu::wr⟩ Q):WO M (⟨.no,.store 1 x y,none⟩::l) ⟨⟨pe,lo,cM hp bu e P S X,df⟩,wr⟩ Q:=by
 subst hm;refine age (L:=P++X++S) (e:=e) hx hy (by unfold cM;exact dg hl) (by simp;omega) ?_;rw[Ie hi];have:ab.put (cM hp bu e P S X) bu (some (.cells (aj (P++X.set i v++S)) e))=cM hp bu e P S (X.set i v):=by unfold cM;exact Hf
 rw[this];exact h
end
end Go.Ab.Ch1

/-
  Own work: digits to the base 10^9: zeros at the end, what is handed back.
-/
namespace Go.Ab.Ch1
open Go.Ab.aY
variable {M:ax} {cap c1 c2:Option Nat}
def fU (v:AV)(hh:ab)(r:List Int):Prop:=∃v1,hJ hh v v1/\v1.top=0/\cd v1 = .vs (aj r) r.length none
theorem DE (l:List Int):dJ (aj l)=aj l:=AS (fun _=>rfl) l
theorem fc (l:List Int):bk (aj l)=0:=pF (fun _=>rfl) l
theorem fU.trim {b:Nat}{L:List Int}{e:TypeId}{hp:ab}{n:Nat}(hb:hp.at b=some (.cells (aj L) e))(hn:n<=L.length):fU (bz b (aN (L.take n)) cap) (if (aV [bz b (aN (L.take n)) cap]).top<=0 then [] else hp) (L.take (aN (L.take n))):=by
 have hle:=hZ (l:=L.take n);rw[List.length_take]at hle;obtain⟨k,hk⟩:∃k,k=aN (L.take n):=⟨_,rfl⟩;rw[←hk]at hle ⊢;by_cases h0:0<k
 . have e1:bz b k cap = .sl b 0 k 1 cap:=if_pos h0;rw[e1,if_neg (by simp[aV,AV.top])];have hl:(L.take k).length=k:=by rw[List.length_take];omega
   have hF:Fr hp [b] (.sl b 0 k 1 cap) (.vs (aj (L.take k)) k none):=by
    refine .sl (m:=aj (L.take k)) (List.mem_singleton.2 rfl) hb ?_ rfl (fun i x y hx hy=>?_) (.inr rfl)
    . have:=ke (f:=iC) (esz:=1) (fun _=>rfl) (l:=L) (i:=0) (n:=k) (by omega);simpa using this
    . rw[hx]at hy;cases hy;exact .same (cF (fc _) hx)
   unfold fU;rw[hl];refine⟨_,⟨[b],hF,rfl,fun c l' e' hc hl'=>?_⟩,fc _,by rw[cd,DE]⟩;rw[List.mem_singleton.1 hc,hb]at hl';cases hl';exact nJ (fun _=>rfl) _
 . obtain rfl:k=0:=by omega
   exact⟨.vs [] 0 cap,.same rfl rfl,rfl,rfl⟩
def xW (M:ax)(g:Nat)(ars:List AV)(z:Int):Prop:=∃r:List Int,(okW dB r/\az r/\WV dB r=z)/\∃v hh,fU v hh r/\aT M g ars [] ⟨v,hh,[]⟩
theorem DG {f N:Nat}{aO:List Nat}{res:List ew}{body:al}{ars:List AV}{z:Int}(hft:M.FT f=some ⟨N,aO,res,body⟩)(hN:ars.length<=N)
 (h:W M body ⟨⟨aO.map (fun t=>(ars[t]?).getD cB),[],[],[]⟩,[]⟩ fun e s=>(e = .normal\/e = .ret)/\s.s.bX=[]/\∃vs,de s.s res=some vs/\∃r:List Int,(okW dB r/\az r/\WV dB r=z)/\fU (aV vs) (if (aV vs).top<=0 then [] else s.s.hp) r):xW M f ars z:=by
 obtain⟨v,hh,⟨r,hr,ho⟩,h2⟩:=fZ (P:=fun v hh=>∃r:List Int,(okW dB r/\az r/\WV dB r=z)/\fU v hh r) hft hN h;exact⟨r,hr,v,hh,ho,h2⟩
theorem oI {L:List Int}(ok:okW dB L):okW dB (L.take (aN L))/\az (L.take (aN L))/\WV dB (L.take (aN L))=WV dB L:=⟨dm ok _,BC,vc⟩
def cm (x:AV)(l:List Int):Prop:=x = .vs (aj l) l.length none\/(x = .ae/\l=[])
def je (v:AV)(hh:ab)(q r:List Int):Prop:=∃v1 x y,eM hh v v1/\v1.top=0/\bK v1 = .aq [x,y]/\cm x q/\cm y r
theorem oJ (l:List Int):cJ (aj l)=aj l:=AT (fun _=>rfl) l
theorem DH {b:Nat}{L:List Int}{e:TypeId}{hp:ab}{n:Nat}(hb:hp.at b=some (.cells (aj L) e))(hn:n<=L.length)(hh:ab)(he:(bz b (aN (L.take n)) cap).top≠0->hh=hp) :
 ∃v1,eM hh (bz b (aN (L.take n)) cap) v1/\v1.top=0/\bK v1 = .vs (aj (L.take (aN (L.take n)))) (L.take (aN (L.take n))).length none:=by
 have hle:=hZ (l:=L.take n);rw[List.length_take]at hle;obtain⟨k,hk⟩:∃k,k=aN (L.take n):=⟨_,rfl⟩;rw[←hk]at hle he ⊢;by_cases h0:0<k
 . have e1:bz b k cap = .sl b 0 k 1 cap:=if_pos h0;rw[e1]at he ⊢;obtain rfl:=he (by simp[AV.top]);have hl:(L.take k).length=k:=by rw[List.length_take];omega
   have hF:eM hh (.sl b 0 k 1 cap) (.vs (aj (L.take k)) k none):=by
    refine .sl (m:=aj (L.take k)) hb ?_ rfl (fun i x y hx hy=>?_)
    . have:=ke (f:=iC) (esz:=1) (fun _=>rfl) (l:=L) (i:=0) (n:=k) (by omega);simpa using this
    . rw[hx]at hy;cases hy;exact .same (cF (fc _) hx)
   rw[hl];exact⟨_,hF,fc _,by rw[bK,oJ]⟩
 . obtain rfl:k=0:=by omega
   exact⟨.vs [] 0 cap,.same rfl,rfl,rfl⟩
theorem je.less {hh:ab}{l:List Int}:je (aV [.ae,.vs (aj l) l.length cap]) hh [] l:=by
 have ht:(aV [.ae,.vs (aj l) l.length cap]).top=0:=by simp[aV,AV.top,bk,fc l]
 refine⟨aV [.ae,.vs (aj l) l.length cap],.ae,.vs (aj l) l.length none,.same ht,ht,?_,.inr ⟨rfl,rfl⟩,.inl rfl⟩;simp only[aV,bK,cJ,oJ l]
def LY (M:ax)(g:Nat)(ars:List AV)(x y:Int):Prop:=∃q r:List Int,(okW dB q/\az q/\WV dB q=x/y)/\(okW dB r/\az r/\WV dB r=x%y)/\∃v hh,je v hh q r/\aT M g ars [] ⟨v,hh,[]⟩
theorem acf {f N:Nat}{aO:List Nat}{res:List ew}{body:al}{ars:List AV}{x y:Int}(hft:M.FT f=some ⟨N,aO,res,body⟩)(hN:ars.length<=N)
 (h:W M body ⟨⟨aO.map (fun t=>(ars[t]?).getD cB),[],[],[]⟩,[]⟩ fun e s=>(e = .normal\/e = .ret)/\s.s.bX=[]/\∃vs,de s.s res=some vs/\∃q r:List Int,(okW dB q/\az q/\WV dB q=x/y)/\(okW dB r/\az r/\WV dB r=x%y)/\je (aV vs) (if (aV vs).top<=0 then [] else s.s.hp) q r):LY M f ars x y:=by
 obtain⟨v,hh,⟨q,r,hq,hr,ho⟩,h2⟩:=fZ (P:=fun v hh=>∃q r:List Int,(okW dB q/\az q/\WV dB q=x/y)/\(okW dB r/\az r/\WV dB r=x%y)/\je v hh q r) hft hN h;exact⟨q,r,hq,hr,v,hh,ho,h2⟩
theorem sZ {b:Nat}:bz b 0 cap = .vs [] 0 cap:=if_neg (by omega)
theorem LZ {b r:Nat}:bz b (r+1) cap = .sl b 0 (r+1) 1 cap:=if_pos (by omega)
theorem acg (hft:M.FT=FT){b n:Nat}{L:List Int}{e:TypeId}{hp:ab}(hb:hp.at b=some (.cells (aj L) e))(hn:n<=L.length)(hl:n<1000000000)(hc:∀c,cap=some c->n<=c) :
 aT M 242 [bz b n cap] hp ⟨bz b (aN (L.take n)) cap,hp,[]⟩:=by
 have hbl:=eo hb;refine lf (by rw[hft];exact xN) (by simp) (by unfold bz;split <;> simp[AV.top,bk];omega) ?_;have loop:∀(r:Nat) (lo:List (Nat×AV)) (a1:AV) {Q:Ex->ao->Prop},r<=n->aN (L.take r)=aN (L.take n)->(∀lo,Q (.exit 0) ⟨⟨[bz b (aN (L.take n)) cap,a1],lo,hp,[]⟩,[]⟩)->W M (.loop jr) ⟨⟨[bz b r cap,a1],lo,hp,[]⟩,[]⟩ Q:=by
  intro r;induction r with
  | zero=>
   intro lo a1 Q hr he hQ;have e0:aN (L.take n)=0:=by rw[←he];rfl
   rw[e0,sZ]at hQ;rw[sZ];refine W.loop ?_;unfold jr;exact gg7
  | succ r ih=>
   intro lo a1 Q hr he hQ;have e:=nX (l:=L) (i:=r) (by omega);have ei:0+((((r+1:Nat):Int)-1).toNat)*1=r:=by omega
   have er:((r+1:Nat):Int)-1=r:=by omega
   rw[LZ];refine W.loop ?_;by_cases h0:L[r]! = 0
   . rw[if_pos h0]at e;unfold jr;exact gg12
   . rw[if_neg h0]at e;have e2:aN (L.take n)=r+1:=by rw[←he,e]
     rw[e2,LZ]at hQ;unfold jr;exact gg12
 unfold sW;simp only[enter];refine gg3 ?_;refine loop n _ _ (Nat.le_refl _) rfl (fun lo=>?_);exact gg8
theorem oK (hft:M.FT=FT)(dK:∀ars h,M.ext 242 ars h=none){b n:Nat}{L:List Int}{e:TypeId}{hp:ab}(hb:hp.at b=some (.cells (aj L) e))(h0:0<n)(hn:n<=L.length)(hl:n<1000000000)(hc:∀c,cap=some c->n<=c) :
 CT M (ib 242) [.sl b 0 n 1 cap] hp ⟨bz b (aN (L.take n)) cap,hp,[]⟩:=by
 have h:=acg (cap:=cap) hft hb hn hl hc;rw[show bz b n cap = .sl b 0 n 1 cap from if_pos h0]at h;exact CT.run (fi:=[]) (ca:=[]) (dK _ _) h
theorem Ma {b n:Nat}:bz b n cap = .sl b 0 n 1 cap\/bz b n cap = .vs [] 0 cap/\n=0:=by
 rcases Nat.eq_zero_or_pos n with rfl|h
 . exact .inr ⟨sZ,rfl⟩
 . exact .inl (if_pos h)
theorem tv {st:St}{i b:Nat}{x y:AV}{e:TypeId}(h1:st.pe[i]? = some (.ptr b 0))(h2:st.hp.at b=some (.cells [x,y] e)):de st [.cell 2 true (.p i)]=some [.agg [x,y]]:=by
 simp only[de,St.aa,h1,Option.bind_some,fg,h2,List.drop];rfl
theorem Mb (hft:M.FT=FT)(dK:∀ars h,M.ext 242 ars h=none){b n:Nat}{L:List Int}{e:TypeId}{hp:ab}(neg:Bool)(hb:hp.at b=some (.cells (aj L) e))(h0:0<n)(hn:n<=L.length)(hl:n<1000000000)(hc:∀c,cap=some c->n<=c) :
 aT M 196 [.bool neg,.sl b 0 n 1 cap] hp ⟨.agg [.bool (neg && decide (0<aN (L.take n))),bz b (aN (L.take n)) cap],hp,[]⟩:=by
 have hbl:=eo hb;have q:=oK (cap:=cap) hft dK (hp:=hp++[some (.cells [.bool false,.ae] 162)]) (bT hb) h0 hn hl hc;have ht:aN (L.take n)<=n:=by have:=hZ (l:=L.take n);rw[List.length_take]at this;omega
 obtain⟨k,hk⟩:∃k,k=aN (L.take n):=⟨_,rfl⟩;rw[←hk]at q ht ⊢;refine lf (by rw[hft];exact xM) (by simp) (by rcases Ma (cap:=cap) (b:=b) (n:=k) with h|⟨h,_⟩ <;> rw[h] <;> simp[AV.top,bk] <;> omega) ?_;unfold sV;simp only[enter];rcases Ma (cap:=cap) (b:=b) (n:=k) with h|⟨h,h1⟩
 . rw[h]at q ⊢;by_cases hk0:0<k
   . rw[decide_eq_true hk0,Bool.and_true];cases neg;all_goals
     . exact gg1
   . exfalso;have:k=0:=by omega
     rw[this,sZ]at h;cases h
 . rw[h]at q ⊢;subst h1;rw[decide_eq_false (by omega),Bool.and_false];cases neg;all_goals
   . exact gg1
end Go.Ab.Ch1

/-
  Own work: the reference's integers: read from texts.
-/
namespace Go.Ab.Ch1
open Go.Ab.aY
variable {M:ax} {cap c1 c2:Option Nat}
def cG (v:AV)(z:Int):Prop:=∃neg x l,v = .agg [.bool neg,x]/\cm x l/\okW dB l/\az l/\z=(if neg then -WV dB l else WV dB l)/\(neg=true->l≠[])
def iZ (v:AV)(z:Int):Prop:=∃neg l,v = .agg [.bool neg,.vs (aj l) l.length none]/\okW dB l/\az l/\z=(if neg then -WV dB l else WV dB l)/\(neg=true->l≠[])
theorem iZ.tc {v:AV}{z:Int}(h:iZ v z):cG v z:=by
 obtain⟨neg,l,h1,h2,h3,h4,h5⟩:=h;exact⟨neg,_,l,h1,.inl rfl,h2,h3,h4,h5⟩
theorem Mc (n:Nat):((10^(9*n):Nat):Int)=dB^n:=by
 rw[Nat.pow_mul];exact Int.natCast_pow _ _
theorem ach {t x:an}(hx:x.length=9):ay 0 (t++x)=ay 0 t*1000000000+ay 0 x:=by
 rw[ot,wH,hx]
structure DI (M:ax):Prop where
 ft:M.FT=FT
 dK:∀ars h,M.ext 242 ars h=none
 td:∀ars h,M.ext 196 ars h=none
 DJ:∀(s:an) h,s.length<=18->s.all bF=true->M.ext 192 [.str s] h=some ⟨.iV (ay 0 s:Nat),h,[]⟩
theorem Md {K:ab}{c:Nat}{L:List Int}{neg:Bool}(hc:K.at c=some (.cells (aj L) 3))(oL:okW dB L) :
 ∃v0,iZ v0 (if neg then -WV dB L else WV dB L)/\fa (.agg [.bool (neg && decide (0<aN (L.take L.length))),bz c (aN (L.take L.length)) none]) (if (AV.agg [.bool (neg && decide (0<aN (L.take L.length))),bz c (aN (L.take L.length)) none]).top<=0 then [] else K) v0:=by
 obtain⟨v1,f1,t1,k1⟩:=DH (cap:=none) hc (Nat.le_refl L.length) (if (AV.agg [.bool (neg && decide (0<aN (L.take L.length))),bz c (aN (L.take L.length)) none]).top<=0 then [] else K) (fun h=>by
  rw[if_neg];intro h2;apply h;have:(AV.agg [.bool (neg && decide (0<aN (L.take L.length))),bz c (aN (L.take L.length)) none]).top=max 0 (max (bz c (aN (L.take L.length)) none).top 0):=rfl;omega)
 obtain⟨g1,g2,g3⟩:=oI oL;rw[List.take_length]at k1 f1 ⊢;refine⟨.agg [.bool (neg && decide (0<aN L)),.vs (aj (L.take (aN L))) (L.take (aN L)).length none],⟨_,_,rfl,g1,g2,?_,?_⟩,.agg [.bool (neg && decide (0<aN L)),v1],.agg rfl (fun i a b ha hb=>?_),?_,?_⟩
 . rw[g3];cases neg with
   | false=>rfl
   | true=>
    by_cases h0:0<aN L
    . rw[decide_eq_true h0];rfl
    . rw[decide_eq_false h0];have:WV dB L=0:=by rw[←g3,show aN L=0 by omega];rfl
      rw[this];rfl
 . intro h e;rw[Bool.and_eq_true,decide_eq_true_eq]at h;have:=congrArg List.length e;have hle:=hZ (l:=L);rw[List.length_take,List.length_nil]at this;omega
 . match i with
   | 0=>cases ha;cases hb;exact .same rfl
   | 1=>cases ha;cases hb;exact f1
   | i+2=>cases ha
 . simp[AV.top,bk,t1]
 . simp only[bK,cJ,k1]
theorem aci (C:DI M){Q:Ex->ao->Prop}(full:an)(hD:full.all bF=true)(hl:full.length<1000000)(a2:AV)
 (hQ:∀t acc o K lo wr,t.length<=9->t.all bF=true->okW dB acc->acc.length<1000000->(ay 0 full:Int)=ay 0 t*dB^acc.length+WV dB acc->cz iC 1 3 K o acc [0]->K.at 0=some (.cells [.bool false,.ae] 162)->Q (.exit 0) ⟨⟨[.str t,.ptr 0 0,a2,o],lo,K,[]⟩,wr⟩)
 (lo:List (Nat×AV)) (wr:List Nat) (K:ab) (hK:K.at 0=some (.cells [.bool false,.ae] 162)) :
 W M (.loop sS) ⟨⟨[.str full,.ptr 0 0,a2,.ae],lo,K,[]⟩,wr⟩ Q:=by
 refine W.fE (fun m st=>∃t acc o K lo wr,st=⟨⟨[.str t,.ptr 0 0,a2,o],lo,K,[]⟩,wr⟩/\t.length=m/\t.all bF=true/\okW dB acc/\acc.length*9+t.length<=full.length/\(ay 0 full:Int)=ay 0 t*dB^acc.length+WV dB acc/\cz iC 1 3 K o acc [0]/\K.at 0=some (.cells [.bool false,.ae] 162))
  (fun m st ⟨t,acc,o,K,lo,wr,hst,hm,hDt,oA,hln,hv,ho,hK⟩=>?_) (m:=full.length) ⟨full,[],.ae,K,lo,wr,rfl,rfl,hD,ij,by simp,by simp[WV],.nM,hK⟩
 subst hst;by_cases h9:t.length<=9
 . unfold sS;exact gg9
 . obtain⟨x,y,hxy,hxl⟩:∃x y,t=x++y/\y.length=9:=⟨t.take (t.length-9),t.drop (t.length-9),(List.take_append_drop _ t).symm,by rw[List.length_drop];omega⟩;have htl:t.length=x.length+9:=by rw[hxy,List.length_append,hxl]
   have hDx:x.all bF=true:=by rw[hxy,List.all_append,Bool.and_eq_true]at hDt;exact hDt.1
   have hDy:y.all bF=true:=by rw[hxy,List.all_append,Bool.and_eq_true]at hDt;exact hDt.2
   have q192:=fun h=>C.DJ y h (by omega) hDy
   have hylt:ay 0 y<1000000000:=by have:=ou y hDy;rw[hxl]at this;exact this
   have edr:t.drop ((t.length:Int)-9).toNat=y:=by rw[show ((t.length:Int)-9).toNat=x.length by omega,hxy,List.drop_left]
   have etk:t.take ((t.length:Int)-9).toNat=x:=by rw[show ((t.length:Int)-9).toNat=x.length by omega,hxy,List.take_left]
   have hroom:(acc.length+1)*8<=dD:=by unfold dD;omega
   have hK1:=eo hK;unfold sS;repeat' first|(apply afh (s:=t) (r:=y);rfl;rfl;omega;exact edr)|(apply afC (s:=t) (r:=x);rfl;rfl;omega;exact etk)|(refine cz.app (f:=iC) (m:=[(ay 0 y:Int)]) (S:=[0]) (fun _=>rfl) (fun _=>rfl) (by decide) (ho.grow [_]) (by simp) rfl rfl (Sl.iJ (f:=iC) (esz:=1) (l:=[(ay 0 y:Int)]) (e:=3) (fun _=>rfl) bW rfl) hroom (fun H w' o' ho' hk hlen=>?_))|apply aap|apply aM|apply aaF|apply aaY|apply acS|apply abJ|apply cX|(apply abz;rfl)|(apply adU;rfl;rfl)|(apply aes;rfl;rfl;omega)|(apply abD;rfl;rfl;first|exact q192 _)|(apply acb;rfl;rfl;rfl)|(apply aab;rfl;rfl)|(apply aaZ;rfl;rfl)|(intro _;omega)|intro _
   all_goals try omega
   all_goals exact da ⟨x.length,by omega,x,acc++[(ay 0 y:Int)],o',H,_,_,rfl,rfl,hDx,jg oA (fun z hz=>by rw[List.mem_singleton.1 hz];exact⟨by omega,by show _<(1000000000:Int);omega⟩),by rw[List.length_append,List.length_singleton];omega,by
    rw[hv,hxy,ach hxl,List.length_append,List.length_singleton,Int.pow_succ,fF];rw[Int.natCast_add,Int.natCast_mul];have:WV dB [(ay 0 y:Int)]=ay 0 y:=by simp[WV]
    rw[this];show ((ay 0 x:Int)*1000000000+ay 0 y)*dB^acc.length+WV dB acc=ay 0 x*(dB^acc.length*1000000000)+(WV dB acc+dB^acc.length*ay 0 y);grind,ho',hk 0 _ (by simp) (bT hK)⟩
theorem acj (C:DI M)(s:an)(hl:s.length<1000000)(hD:(bJ 45 s).all bF=true):∃v0,iZ v0 (if preB 45 s then -(ay 0 (bJ 45 s):Int) else (ay 0 (bJ 45 s):Nat))/\cK M 193 [.str s] v0:=by
 have hcl:=sH 45 s;obtain⟨v',hh,⟨v0,h0,ho⟩,hr⟩:=fZ (M:=M) (f:=193) (ars:=[.str s]) (P:=fun v hh=>∃v0,iZ v0 (if preB 45 s then -(ay 0 (bJ 45 s):Int) else (ay 0 (bJ 45 s):Nat))/\fa v hh v0) (by rw[C.ft];exact abO) (by simp) (by
  have main:∀(neg:Bool) (lo:List (Nat×AV)) (wr:List Nat) {Q:Ex->ao->Prop},(∀e st,((e = .normal\/e = .ret)/\st.s.bX=[]/\∃vs,de st.s [.cell 2 true (.p 1)]=some vs/\∃v0,iZ v0 (if neg then -(ay 0 (bJ 45 s):Int) else (ay 0 (bJ 45 s):Nat))/\fa (aV vs) (if (aV vs).top<=0 then [] else st.s.hp) v0)->Q e st) ->
   W M (.loop sS) ⟨⟨[.str (bJ 45 s),.ptr 0 0,.bool neg,.ae],lo,[some (.cells [.bool false,.ae] 162)],[]⟩,wr⟩ (BQ 0 (SQ M (zR [zm 33 2,
    zm 34 3,
    zm 35 0,
    z1 36 192 35,
    ⟨(.l 37),.dZ 3 1 1 [.iV (0)] [(0,1,(.l 36))],none⟩,
    ⟨(.l 38),.append 3 1 8 (.l 34) (.l 37),none⟩,
    z2 39 196 33 38,
    zs 2 1 39]
     (.ret)) Q)):=by
   intro neg lo wr Q hQ;refine aci C (bJ 45 s) hD (by omega) _ (fun t acc o K lo wr ht hDt oA hacc hv ho hK=>?_) _ _ _ rfl;have q192:=fun h=>C.DJ t h (by omega) hDt
   have htlt:ay 0 t<1000000000:=by
    have h1:=ou t hDt;exact Nat.lt_of_lt_of_le h1 (Nat.le_trans (Nat.pow_le_pow_right (by decide) ht) (by decide))
   have hroom:(acc.length+1)*8<=dD:=by unfold dD;omega
   have hK1:=eo hK;repeat' first|(refine cz.app (f:=iC) (m:=[(ay 0 t:Int)]) (S:=[0]) (fun _=>rfl) (fun _=>rfl) (by decide) (ho.grow [_]) (by simp) rfl rfl (Sl.iJ (f:=iC) (esz:=1) (l:=[(ay 0 t:Int)]) (e:=3) (fun _=>rfl) bW rfl) hroom (fun H w' o' ho' hk hlen=>?_))|apply aap|apply aM|apply aaF|apply fy|(apply abD;rfl;rfl;first|exact q192 _)|(apply acb;rfl;rfl;rfl)|(apply aab;rfl;rfl)
   rcases ho' with ⟨h1,_⟩|⟨c,cp,hc0,rfl,hc,hcap⟩
   . simp at h1
   obtain rfl:cp=none:=hcap.resolve_right fun h=>by simp at h
   have oL:okW dB (acc++[(ay 0 t:Int)]):=jg oA (fun z hz=>by rw[List.mem_singleton.1 hz];exact⟨by omega,by show _<(1000000000:Int);omega⟩);have vL:WV dB (acc++[(ay 0 t:Int)])=(ay 0 (bJ 45 s):Int):=by
    rw[hv,fF];have:WV dB [(ay 0 t:Int)]=ay 0 t:=by simp[WV]
    rw[this];grind
   have h0':H.at 0=some (.cells [.bool false,.ae] 162):=hk 0 _ (by simp) (bT hK);have hcn:c≠0:=fun e=>hc0 (by simp[e])
   obtain⟨L,hL⟩:∃L,L=acc++[(ay 0 t:Int)]:=⟨_,rfl⟩;rw[←hL]at oL vL hc;have hLl:(acc++[(ay 0 t:Int)]).length=L.length:=by rw[hL]
   rw[hLl];have hLn:0<L.length/\L.length<1000001:=by rw[hL,List.length_append,List.length_singleton];omega
   have q196:=CT.run (fi:=[]) (ca:=[]) (ars:=[.bool neg,.sl c 0 L.length 1 none]) (C.td _ _) (Mb (cap:=none) C.ft C.dK neg hc hLn.1 (Nat.le_refl _) (by omega) (fun _ h=>by cases h));obtain⟨v0,k0,o0⟩:=Md (K:=H.put 0 (some (.cells [.bool (neg && decide (0<aN (L.take L.length))),bz c (aN (L.take L.length)) none] 162))) (neg:=neg) (pH hcn hc) oL;rw[vL]at k0;have hone:cS (bz c (aN (L.take L.length)) none)=true:=by unfold bz;split <;> rfl
   refine gg14 ?_;refine hQ _ _ ⟨.inr rfl,rfl,_,tv rfl (dg (eo h0')),v0,k0,o0⟩
  unfold LK;simp only[enter];cases hp:preB 45 s with
  | true=>
   obtain⟨h1,h2⟩:=wU hp;have h1:s.drop (1:Int).toNat=bJ 45 s:=h1;have e0:s[0]! = 45:=by
    have h:=of_decide_eq_true hp;cases s with
    | nil=>simp at h
    | cons c t=>simp at h;exact h
   have e45:((s[(0:Int).toNat]!).toNat:Int)=45:=by rw[show s[(0:Int).toNat]! = s[0]! from rfl,e0];rfl
   exact gg1
  | false=>
   have e1:=ky hp;rw[e1]at main;by_cases h0:s.length=0
   . exact gg5
   . have e45:((s[(0:Int).toNat]!).toNat:Int)≠45:=fun e=>by
      have h:=of_decide_eq_false hp;cases s with
      | nil=>exact h0 rfl
      | cons c t=>
       refine h (congrArg some (UInt8.toNat_inj.1 ?_));have e:((c.toNat:Nat):Int)=45:=e;have:(45:UInt8).toNat=45:=rfl;omega
     repeat' first|apply aap|apply aM|apply aaF|apply aaY|apply acS|apply abJ|(apply abF;rfl)|(apply acY;rfl)|(apply adU;rfl;rfl)|(apply adE;rfl;rfl)|(apply acR;rfl;rfl)|(apply afb;rfl;rfl;omega)|(apply acK;rfl;rfl;rfl)|(apply aab;rfl;rfl)|(apply aaZ;rfl;rfl)|(intro _;omega)|intro _
     all_goals try omega
     all_goals exact main false _ _ (fun e st h=>by rw[e1];exact h))
 exact⟨v0,h0,v',hh,ho,hr⟩
end Go.Ab.Ch1

/-
  Own work: the reference's integers: parts of a fraction; comparisons; divisions by one digit.
-/
namespace Go.Ab.Ch1
open Go.Ab.aY
variable {M:ax} {cap c1 c2:Option Nat}
theorem tf (x:AV){l:List Int}(h:cm x l):cS x=true/\x.top=0/\bK x=x:=by
 rcases h with rfl|⟨rfl,rfl⟩
 . exact⟨rfl,fc l,by rw[bK,oJ]⟩
 . exact⟨rfl,rfl,rfl⟩
theorem cG.shape {v:AV}{z:Int}(h:cG v z):∃neg x l,v = .agg [.bool neg,x]/\cm x l/\cS x=true/\x.top=0/\bK x=x:=by
 obtain⟨neg,x,l,rfl,hx,_⟩:=h;obtain⟨h1,h2,h3⟩:=tf x hx;exact⟨neg,x,l,rfl,hx,h1,h2,h3⟩
theorem jT {n:Bool}{x:AV}(h:cS x=true):[AV.bool n,x].all cS=true:=by rw[List.all_cons,List.all_cons,List.all_nil,h];rfl
theorem Me {s:an}(h:js s=true):s.take (cw s)=(bE 47 s).1/\s.drop (cw s+1)=(bE 47 s).2.getD []/\cw s+1<=s.length:=by
 unfold js at h;obtain⟨y,hy⟩:=Option.isSome_iff_exists.1 h;have h1:=CX hy;have h2:=KC hy;have h3:=sG hy;refine⟨h1,?_,by unfold cw;omega⟩;rw[hy];exact h2
theorem Mf (hft:M.FT=FT)(s:an)(hl:s.length<1000000)(hb:js s=true)(q153:∀h,M.ext 153 [.str s] h=some ⟨.iV (cw s),h,[]⟩){v1 v2:AV}{z1 z2:Int}(k1:cG v1 z1)(k2:cG v2 z2)(qa:∀h,M.ext 193 [.str (bE 47 s).1] h=some ⟨v1,h,[]⟩)(qb:∀h,M.ext 193 [.str ((bE 47 s).2.getD [])] h=some ⟨v2,h,[]⟩):cK M 135 [.str s] (.aq [v1,v2]):=by
 obtain⟨e1,e2,hk⟩:=Me hb;obtain⟨n1,x1,l1,rfl,_,o1,t1,b1⟩:=k1.shape;obtain⟨n2,x2,l2,rfl,_,o2,t2,b2⟩:=k2.shape;have e1':s.take ((cw s:Nat):Int).toNat=(bE 47 s).1:=e1;have e2':s.drop ((cw s:Int)+1).toNat=(bE 47 s).2.getD []:=by rw[show ((cw s:Int)+1).toNat=cw s+1 by omega];exact e2
 generalize (bE 47 s).1=X at *
 generalize (bE 47 s).2.getD []=Y at *
 refine cI (by rw[hft];exact LJ) (by simp) ?_;unfold Dy;simp only[enter];repeat' first|(apply afC (s:=s) (r:=X);rfl;rfl;omega;exact e1')|(apply afh (s:=s) (r:=Y);rfl;rfl;omega;exact e2')|(apply aeS;rfl;rfl;(first|(simp only[nca];rfl)|rfl);first|exact qa _|exact qb _)|(apply ade;rfl;rfl;rfl;exact⟨rfl,Nat.le_refl _,by first|exact jT o1|exact jT o2⟩;rfl)|apply aap|apply aM|apply aaF|apply aaY|apply abu|apply abJ|apply aeb|apply aem|(apply aeZ;rfl)|(apply aeU;rfl;(first|(simp only[nca];rfl)|rfl);(first|(simp only[nca];rfl)|rfl))|(apply abF;rfl)|(apply adE;rfl;rfl)|(apply ael;rfl;rfl;omega)|(apply abD;rfl;rfl;first|exact q153 _)|(apply acK;rfl;rfl;rfl)|(apply aab;rfl;rfl)|(apply aaZ;rfl;rfl)|(intro _;omega)|intro _
 all_goals try omega
 refine cD rfl rfl (.same ?_ ?_)
 . show max (max 0 (max x1.top 0)) (max (max 0 (max x2.top 0)) 0)=0;rw[t1,t2];rfl
 . show AV.aq [.agg [.bool n1,bK x1],.agg [.bool n2,bK x2]]=_;rw[b1,b2]
theorem Mg (hft:M.FT=FT)(a b:List Int)(ha:okW dB a)(hb:okW dB b)(na:az a)(nb:az b)(la:a.length<1000000000)(lb:b.length<1000000000) :
 aT M 218 [.vs (aj a) a.length c1,.vs (aj b) b.length c2] [] ⟨.iV (bD (WV dB a-WV dB b)),[],[]⟩:=by
 have hB:(1:Int)<dB:=by decide
 refine bH (by rw[hft];exact abR) (by simp) ?_;by_cases hl:a.length=b.length
 . have loop:∀(r:Nat) lo a2 wr {Q:Ex->ao->Prop},r<=a.length->a.drop r=b.drop r ->
    (∀lo wr z,z=bD (WV dB a-WV dB b)->∀a3,Q .ret ⟨⟨[.vs (aj a) a.length c1,.vs (aj b) b.length c2,.iV z,a3],lo,[],[]⟩,wr⟩) ->
    (bD (WV dB a-WV dB b)=0->∀lo wr,Q (.exit 0) ⟨⟨[.vs (aj a) a.length c1,.vs (aj b) b.length c2,a2,.iV (-1)],lo,[],[]⟩,wr⟩) ->
    W M (.loop qz) ⟨⟨[.vs (aj a) a.length c1,.vs (aj b) b.length c2,a2,.iV ((r:Int)-1)],lo,[],[]⟩,wr⟩ Q:=by
    intro r;induction r with
    | zero=>
     intro lo a2 wr Q hr hd h1 h2;rw[List.drop_zero,List.drop_zero]at hd;refine W.loop ?_;unfold qz;exact gg4
    | succ r ih=>
     intro lo a2 wr Q hr hd h1 h2;have er:((r+1:Nat):Int)-1=r:=by omega
     rw[er];have hai:a[((r:Int)).toNat]! = a[r]! := rfl;have hbi:b[((r:Int)).toNat]! = b[r]! := rfl;refine W.loop ?_;by_cases hlt:a[r]! < b[r]!
     . have:=vd hB ha hb (i:=r) (by omega) (by omega) hd hlt;rw[←hai,←hbi]at hlt;unfold qz;exact gg13
     . by_cases hgt:b[r]! < a[r]!
       . have:=vd hB hb ha (i:=r) (by omega) (by omega) hd.symm hgt;rw[←hai,←hbi]at hlt hgt;unfold qz;exact gg13
       . have hd2:a.drop r=b.drop r:=by
          rw[List.drop_eq_getElem_cons (show r<a.length by omega),List.drop_eq_getElem_cons (show r<b.length by omega),hd,←getElem!_pos a r,←getElem!_pos b r];exact congrArg (· :: _) (show a[r]! = b[r]! by omega)
         rw[←hai,←hbi]at hlt hgt;unfold qz;exact gg13
   unfold DC;simp only[enter];refine gg6 ?_;refine loop a.length _ _ _ (Nat.le_refl _) (by rw[List.drop_length,hl,List.drop_length]) (fun lo wr z hz a3=>?_) (fun hz lo wr=>?_)
   . subst hz;exact gg1
   . rw[hz];exact gg9
 . unfold DC;simp only[enter];by_cases hlt:a.length<b.length
   . have:=nY hB ha hb nb hlt;rw[show bD (WV dB a-WV dB b) = -1 by rw[bD,if_pos (by omega)]];repeat' first|apply aap|apply aM|apply aaF|apply aaY|apply abu|apply bZ|(apply abz;rfl)|(apply ada;rfl;rfl)|(apply aef;rfl;rfl)|(apply aab;rfl;rfl)|(apply aaZ;rfl;rfl)|(intro _;omega)|intro _
     all_goals first|contradiction|(omega)|skip
     all_goals exact⟨.inr rfl,rfl,_,rfl,rfl,rfl⟩
   . have:=nY hB hb ha na (by omega);rw[show bD (WV dB a-WV dB b)=1 by rw[bD,if_neg (by omega),if_pos (by omega)]];repeat' first|apply aap|apply aM|apply aaF|apply aaY|apply abu|apply abJ|apply bZ|(apply abz;rfl)|(apply abF;rfl)|(apply ada;rfl;rfl)|(apply aef;rfl;rfl)|(apply aab;rfl;rfl)|(apply aaZ;rfl;rfl)|(intro _;omega)|intro _
     all_goals first|contradiction|(omega)|skip
     all_goals exact⟨.inr rfl,rfl,_,rfl,rfl,rfl⟩
theorem ack (a:List Int)(oa:okW dB a)(la:a.length<10000000)(d:Int)(hd:0<d/\d<=1000000000){Q:Ex->ao->Prop}(a2 a3:AV)
 (hQ:∀L (re:Int) a7 lo wr,L.length=a.length->okW dB L->(0<=re/\re<d)->WV dB a=d*WV dB L+re ->
   Q (.exit 0) ⟨⟨[.vs (aj a) a.length c1,.iV d,a2,a3,.sl 0 0 a.length 1 (some a.length),.iV re,.iV (-1),a7],lo,[some (.cells (aj L) 3)],[]⟩,wr⟩) (a7:AV) (lo:List (Nat×AV)) :
 W M (.loop xU) ⟨⟨[.vs (aj a) a.length c1,.iV d,a2,a3,.sl 0 0 a.length 1 (some a.length),.iV 0,.iV ((a.length:Int)-1),a7],lo,[some (.cells (aj (List.replicate a.length 0)) 3)],[]⟩,[]⟩ Q:=by
 refine W.fE (fun t s=>∃L re iv a7 lo wr,s=⟨⟨[.vs (aj a) a.length c1,.iV d,a2,a3,.sl 0 0 a.length 1 (some a.length),.iV re,.iV iv,a7],lo,[some (.cells (aj L) 3)],[]⟩,wr⟩ /\
  iv=(t:Int)-1/\t<=a.length/\L.length=a.length/\okW dB L/\(0<=re/\re<d)/\(∀k,k<t->L[k]! = 0)/\WV dB a=d*WV dB L+dB^t*re+WV dB (a.take t)) (fun t s ⟨L,re,iv,a7,lo,wr,hs,hiv,ht,hL,oL,hre,hz,hv⟩=>?_) (m:=a.length)
  ⟨_,_,_,_,_,_,rfl,rfl,Nat.le_refl _,by simp,kf (by decide),⟨by decide,hd.1⟩,fun k _=>kj,by rw[kh,List.take_length];simp⟩
 subst hs;cases t with
 | zero=>
  obtain rfl:iv = -1:=by omega
  unfold xU;exact gg4
 | succ i=>
  obtain rfl:iv=(i:Int):=by omega
  have gx:=bY oa (i:=i) (by omega);obtain⟨x,hx⟩:∃x,x=a[((i:Int)).toNat]! := ⟨_,rfl⟩;rw[show a[i]! = x from hx.symm]at gx;have gx:0<=x/\x<1000000000:=gx;have e1:=Int.mul_ediv_add_emod (re*1000000000+x) d;have r0:=Int.emod_nonneg (re*1000000000+x) (show d≠0 by omega);have r1:=Int.emod_lt_of_pos (re*1000000000+x) hd.1;have d0:0<=(re*1000000000+x)/d:=Int.ediv_nonneg (by omega) (by omega);have d1:(re*1000000000+x)/d<1000000000:=Int.ediv_lt_of_lt_mul hd.1 (by omega);have eI:0+((i:Int)).toNat*1=i:=by omega
  obtain⟨q,hq⟩:∃q,q=(re*1000000000+x)/d:=⟨_,rfl⟩;obtain⟨r,hr⟩:∃r,r=(re*1000000000+x)%d:=⟨_,rfl⟩;have next:∀a7 lo wr,LI (fun s=>∃m',m'<i+1/\∃L re iv a7 lo wr,s=⟨⟨[.vs (aj a) a.length c1,.iV d,a2,a3,.sl 0 0 a.length 1 (some a.length),.iV re,.iV iv,a7],lo,[some (.cells (aj L) 3)],[]⟩,wr⟩ /\
   iv=(m':Int)-1/\m'<=a.length/\L.length=a.length/\okW dB L/\(0<=re/\re<d)/\(∀k,k<m'->L[k]! = 0)/\WV dB a=d*WV dB L+dB^m'*re+WV dB (a.take m')) Q .normal ⟨⟨[.vs (aj a) a.length c1,.iV d,a2,a3,.sl 0 0 a.length 1 (some a.length),.iV r,.iV ((i:Int)-1),a7],lo,[some (.cells (aj (L.set i q)) 3)],[]⟩,wr⟩:=fun a7 lo wr=>
   da ⟨i,Nat.lt_succ_self i,_,_,_,a7,lo,wr,rfl,rfl,by omega,by rw[List.length_set];exact hL,fO oL ⟨by rw[hq];exact d0,by rw[hq];exact d1⟩,by rw[hr];exact⟨r0,r1⟩,fun k hk=>by rw[gA (by omega)];exact hz k (by omega),by
    rw[hv,fP (by omega),hz i (by omega),eO (by omega),show a[i]! = x from hx.symm,Int.pow_succ,Int.sub_zero];rw[←hq,←hr]at e1;have e2:dB^i*dB*re+dB^i*x=dB^i*(d*q+r):=by rw[e1];show dB^i*1000000000*re+_=_;grind
    rw[Int.mul_add]at e2 ⊢;have e3:d*(dB^i*q)=dB^i*(d*q):=by grind
    rw[e3];omega⟩
  rw[hq,hr,hx]at next
  rw[hx]at gx;have hre2:re<1000000000:=by omega
  unfold xU;exact gg13
end Go.Ab.Ch1

/-
  Own work: the reference's integers: divisions by one digit, products.
-/
namespace Go.Ab.Ch1
open Go.Ab.aY
variable {M:ax} {cap c1 c2:Option Nat}
section
variable {t b m:Nat} {x y:aL} {l:List aU} {pe:List AV} {lo:List (Nat×AV)} {hp:ab} {df wr:List Nat} {L:List Int} {e:TypeId} {v a d:Int} {Q:ao->Prop}
theorem afX (hx:(St.mk pe lo hp df).aa x=some (.iV a))(hy:(St.mk pe lo hp df).aa y=some (.iV d))(ha:0<=a/\a<9223372036854775808)(hd:0<d)
 (h:WO M l ⟨⟨pe,(t,.iV (a/d))::lo,hp,df⟩,wr⟩ Q):WO M (⟨.l t,.bin .quo x y,none⟩::l) ⟨⟨pe,lo,hp,df⟩,wr⟩ Q:=by
 refine afY hx hy hd (by omega) ?_;rw[Int.tdiv_eq_ediv_of_nonneg ha.1];exact h
theorem agd (hx:(St.mk pe lo hp df).aa x=some (.iV a))(hy:(St.mk pe lo hp df).aa y=some (.iV d))(ha:0<=a)(hd:0<d)
 (h:WO M l ⟨⟨pe,(t,.iV (a%d))::lo,hp,df⟩,wr⟩ Q):WO M (⟨.l t,.bin .rem x y,none⟩::l) ⟨⟨pe,lo,hp,df⟩,wr⟩ Q:=by
 refine afZ hx hy (by omega) ?_;rw[Int.tmod_eq_emod_of_nonneg ha];exact h
theorem agt (hx:(St.mk pe lo hp df).aa x=some (.ptr b m))(hb:hp.at b=some (.cells (aj L) e))(hi:m<L.length)(hv:L[m]! = v)
 (h:WO M l ⟨⟨pe,(t,.iV v)::lo,hp,df⟩,wr⟩ Q):WO M (⟨.l t,.load 1 false x,none⟩::l) ⟨⟨pe,lo,hp,df⟩,wr⟩ Q:=by
 subst hv;exact agr hx hb hi h
end
def kD (v:AV)(hh:ab)(r:List Int)(z:Int):Prop:=∃v1,hJ hh v v1/\v1.top=0/\cd v1 = .aq [.vs (aj r) r.length none,.iV z]
theorem kD.trim {b:Nat}{L:List Int}{e:TypeId}{hp:ab}{n:Nat}{z:Int}(hb:hp.at b=some (.cells (aj L) e))(hn:n<=L.length):kD (aV [bz b (aN (L.take n)) cap,.iV z]) (if (aV [bz b (aN (L.take n)) cap,.iV z]).top<=0 then [] else hp) (L.take (aN (L.take n))) z:=by
 have hle:=hZ (l:=L.take n);rw[List.length_take]at hle;obtain⟨k,hk⟩:∃k,k=aN (L.take n):=⟨_,rfl⟩;rw[←hk]at hle ⊢;by_cases h0:0<k
 . have e1:bz b k cap = .sl b 0 k 1 cap:=if_pos h0;rw[e1,if_neg (by simp[aV,AV.top,bk])];have hl:(L.take k).length=k:=by rw[List.length_take];omega
   have hF:Fr hp [b] (.sl b 0 k 1 cap) (.vs (aj (L.take k)) k none):=by
    refine .sl (m:=aj (L.take k)) (List.mem_singleton.2 rfl) hb ?_ rfl (fun i x y hx hy=>?_) (.inr rfl)
    . have:=ke (f:=iC) (esz:=1) (fun _=>rfl) (l:=L) (i:=0) (n:=k) (by omega);simpa using this
    . rw[hx]at hy;cases hy;exact .same (cF (fc _) hx)
   unfold kD;rw[hl];refine⟨.aq [.vs (aj (L.take k)) k none,.iV z],⟨[b],.aq rfl (fun i x y hx hy=>?_),rfl,fun c l' e' hc hl'=>?_⟩,by simp[AV.top,bk,fc],by simp only[cd,dJ,DE]⟩
   . match i with
     | 0=>cases hx;cases hy;exact hF
     | 1=>cases hx;cases hy;exact .same rfl
     | i+2=>cases hx
   . rw[List.mem_singleton.1 hc,hb]at hl';cases hl';exact nJ (fun _=>rfl) _
 . obtain rfl:k=0:=by omega
   exact⟨.aq [.vs [] 0 cap,.iV z],.same rfl rfl,rfl,rfl⟩
theorem kD.zero {b:Nat}{e:TypeId}{hp:ab}{z:Int}(hb:hp.at b=some (.cells (aj []) e)):kD (aV [.sl b 0 0 1 cap,.iV z]) (if (aV [.sl b 0 0 1 cap,.iV z]).top<=0 then [] else hp) [] z:=by
 rw[if_neg (by simp[aV,AV.top,bk])];refine⟨.aq [.vs [] 0 none,.iV z],⟨[b],.aq rfl (fun i x y hx hy=>?_),rfl,fun c l' e' hc hl'=>?_⟩,rfl,rfl⟩
 . match i with
   | 0=>cases hx;cases hy;exact .sl (m:=[]) (List.mem_singleton.2 rfl) hb rfl rfl (fun i x y hx=>by simp at hx) (.inr rfl)
   | 1=>cases hx;cases hy;exact .same rfl
   | i+2=>cases hx
 . rw[List.mem_singleton.1 hc,hb]at hl';cases hl';rfl
theorem DK (hft:M.FT=FT){b:Nat}{L:List Int}{e:TypeId}{hp:ab}(hb:hp.at b=some (.cells (aj L) e)):aT M 242 [.sl b 0 0 1 cap] hp ⟨.sl b 0 0 1 cap,hp,[]⟩:=by
 have hbl:=eo hb;refine lf (by rw[hft];exact xN) (by simp) (by simp[AV.top];omega) ?_;unfold sW;simp only[enter];refine gg3 ?_;refine W.loop ?_;unfold jr;exact gg7
def Mh (M:ax)(g:Nat)(ars:List AV)(x y:Int):Prop:=∃q:List Int,(okW dB q/\az q/\WV dB q=x/y)/\∃v hh,kD v hh q (x%y)/\aT M g ars [] ⟨v,hh,[]⟩
theorem acm {f N:Nat}{aO:List Nat}{res:List ew}{body:al}{ars:List AV}{x y:Int}(hft:M.FT f=some ⟨N,aO,res,body⟩)(hN:ars.length<=N)
 (h:W M body ⟨⟨aO.map (fun t=>(ars[t]?).getD cB),[],[],[]⟩,[]⟩ fun e s=>(e = .normal\/e = .ret)/\s.s.bX=[]/\∃vs,de s.s res=some vs/\∃q:List Int,(okW dB q/\az q/\WV dB q=x/y)/\kD (aV vs) (if (aV vs).top<=0 then [] else s.s.hp) q (x%y)):Mh M f ars x y:=by
 obtain⟨v,hh,⟨q,hq,ho⟩,h2⟩:=fZ (P:=fun v hh=>∃q:List Int,(okW dB q/\az q/\WV dB q=x/y)/\kD v hh q (x%y)) hft hN h;exact⟨q,hq,v,hh,ho,h2⟩
theorem acn (hft:M.FT=FT)(dK:∀ars h,M.ext 242 ars h=none)(a:List Int)(oa:okW dB a)(la:a.length<10000000)(d:Int)(hd:0<d/\d<=1000000000):Mh M 241 [.vs (aj a) a.length c1,.iV d] (WV dB a) d:=by
 refine acm (by rw[hft];exact abS) (by simp) ?_;unfold LP;simp only[enter];refine gg14 ?_;rw[show ((a.length:Int)).toNat=a.length from rfl];refine ack a oa la d hd _ _ (fun L re a7 lo wr hL oL hre hv=>?_) _ _;obtain⟨d1,d2⟩:=mG hv hre.1 hre.2;obtain⟨g1,g2,g3⟩:=oI oL;by_cases h0:a.length=0
 . have hL0:L=[]:=List.eq_nil_of_length_eq_zero (by omega);subst hL0;have hl0:a.length=0:=h0;have q0:CT M (ib 242) [.sl 0 0 a.length 1 (some a.length)] [some (.cells (aj []) 3)] ⟨.sl 0 0 a.length 1 (some a.length),[some (.cells (aj []) 3)],[]⟩:=by
    rw[hl0];exact CT.run (fi:=[]) (ca:=[]) (dK _ _) (DK hft rfl)
   refine gg14 ?_;have hout:=kD.zero (cap:=some a.length) (e:=3) (hp:=[some (.cells (aj []) 3)]) (b:=0) (z:=re) rfl;refine⟨.inr rfl,rfl,_,rfl,[],⟨ij,jy,d1⟩,?_⟩;rw[←d2,hl0];rw[hl0]at hout;exact hout
 . have q1:CT M (ib 242) [.sl 0 0 a.length 1 (some a.length)] [some (.cells (aj L) 3)] ⟨bz 0 (aN (L.take a.length)) (some a.length),[some (.cells (aj L) 3)],[]⟩:=oK (cap:=some a.length) hft dK rfl (by omega) (by omega) (by omega) (fun c hc=>by cases hc;exact Nat.le_refl _);refine gg14 ?_;have hout:=kD.trim (cap:=some a.length) (b:=0) (L:=L) (e:=3) (hp:=[some (.cells (aj L) 3)]) (n:=a.length) (z:=re) rfl (by omega);refine⟨.inr rfl,rfl,_,rfl,L.take (aN (L.take a.length)),?_,?_⟩
   . rw[List.take_of_length_le (show L.length<=a.length by omega)];exact⟨g1,g2,by rw[g3,d1]⟩
   . rw[←d2];exact hout
end Go.Ab.Ch1

/-
  Own work: the reference's integers: products.
-/
namespace Go.Ab.Ch1
open Go.Ab.aY
variable {M:ax} {cap c1 c2:Option Nat}
theorem Mi {x y:Int}(hx:0<=x/\x<1000000000)(hy:0<=y/\y<1000000000):0<=x*y/\x*y<=999999998000000001:=by
 refine⟨Int.mul_nonneg hx.1 hy.1,?_⟩;have:=Int.mul_le_mul (a:=x) (b:=y) (c:=999999999) (d:=999999999) (by omega) (by omega) hy.1 (by omega);omega
theorem aco (a b:List Int)(hb:okW dB b)(la:a.length<10000000)(lb:b.length<10000000)(i:Nat)(hi:i<a.length)(x P:Int)(hx:0<=x/\x<1000000000)(hax:a[((i:Int)).toNat]! = x){Q:Ex->ao->Prop}(a2 a7:AV)(lo:List (Nat×AV))(wr:List Nat)(L:List Int)(hl:L.length=a.length+b.length)(bC:okW dB L)(hz:∀k,i+b.length<=k->L[k]! = 0)(hP:WV dB L=P)
 (hQ:∀L (c:Int) a7 lo wr,L.length=a.length+b.length->okW dB L->(0<=c/\c<1000000000)->(∀k,i+b.length<=k->L[k]! = 0)->WV dB L+dB^(i+b.length)*c=P+dB^i*x*WV dB b ->
   Q (.exit 2) ⟨⟨[.vs (aj a) a.length c1,.vs (aj b) b.length c2,a2,.sl 0 0 (a.length+b.length) 1 (some (a.length+b.length)),.iV i,.iV c,.iV b.length,a7],lo,[some (.cells (aj L) 3)],[]⟩,wr⟩) :
 W M (.loop xS) ⟨⟨[.vs (aj a) a.length c1,.vs (aj b) b.length c2,a2,.sl 0 0 (a.length+b.length) 1 (some (a.length+b.length)),.iV i,.iV 0,.iV 0,a7],lo,[some (.cells (aj L) 3)],[]⟩,wr⟩ Q:=by
 subst hax;refine W.iQ b.length (fun j s=>∃L c a7 lo wr,s=⟨⟨[.vs (aj a) a.length c1,.vs (aj b) b.length c2,a2,.sl 0 0 (a.length+b.length) 1 (some (a.length+b.length)),.iV i,.iV c,.iV j,a7],lo,[some (.cells (aj L) 3)],[]⟩,wr⟩ /\
  L.length=a.length+b.length/\okW dB L/\(0<=c/\c<1000000000)/\(∀k,i+b.length<=k->L[k]! = 0)/\WV dB L+dB^(i+j)*c=P+dB^i*a[((i:Int)).toNat]! * WV dB (b.take j)) (fun j s hj ⟨L,c,a7,lo,wr,hs,hl,bC,hc,hz,hv⟩=>?_) (fun s ⟨L,c,a7,lo,wr,hs,hl,bC,hc,hz,hv⟩=>?_) (Nat.zero_le _)
  ⟨_,_,_,_,_,rfl,hl,bC,⟨by decide,by decide⟩,hz,by rw[hP];simp[WV]⟩
 . subst hs;have gy:=bY hb hj;rw[show b[j]! = b[((j:Int)).toNat]! from rfl]at gy;obtain⟨y,hy⟩:∃y,y=b[((j:Int)).toNat]! := ⟨_,rfl⟩;rw[←hy]at gy;have gy:0<=y/\y<1000000000:=gy;have hm:=Mi hx gy;obtain⟨m,hmm⟩:∃m,m=a[((i:Int)).toNat]! * y:=⟨_,rfl⟩;rw[←hmm]at hm;have gL:=bY bC (i:=i+j) (by omega);obtain⟨w,hw⟩:∃w,w=L[i+j]! := ⟨_,rfl⟩;rw[←hw]at gL;have gL:0<=w/\w<1000000000:=gL;obtain⟨R,hR⟩:∃R,R=(w+m+c)%1000000000:=⟨_,rfl⟩;obtain⟨D,hD⟩:∃D,D=(w+m+c)/1000000000:=⟨_,rfl⟩;have hD2:(0<=D/\D<1000000000)/\w+m+c=R+1000000000*D/\(0<=R/\R<1000000000):=by omega
   have eI:0+(((i:Int)+(j:Int))).toNat*1=i+j:=by omega
   have next:∀a7 lo wr,LI (fun s=>∃L c a7 lo wr,s=⟨⟨[.vs (aj a) a.length c1,.vs (aj b) b.length c2,a2,.sl 0 0 (a.length+b.length) 1 (some (a.length+b.length)),.iV i,.iV c,.iV ((j+1:Nat):Int),a7],lo,[some (.cells (aj L) 3)],[]⟩,wr⟩ /\
    L.length=a.length+b.length/\okW dB L/\(0<=c/\c<1000000000)/\(∀k,i+b.length<=k->L[k]! = 0)/\WV dB L+dB^(i+(j+1))*c=P+dB^i*a[((i:Int)).toNat]! * WV dB (b.take (j+1))) Q .normal ⟨⟨[.vs (aj a) a.length c1,.vs (aj b) b.length c2,a2,.sl 0 0 (a.length+b.length) 1 (some (a.length+b.length)),.iV i,.iV D,.iV ((j:Int)+1),a7],lo,[some (.cells (aj (L.set (i+j) R)) 3)],[]⟩,wr⟩:=fun a7 lo wr=>
    da ⟨_,_,a7,lo,wr,rfl,by rw[List.length_set];exact hl,fO bC hD2.2.2,hD2.1,fun k hk=>by rw[gA (by omega)];exact hz k hk,by
     rw[fP (by omega),←hw,eO hj,show i+(j+1)=(i+j)+1 from rfl,Int.pow_succ,show b[j]! = y from hy.symm];have e:=hD2.2.1;rw[hmm]at e;have e2:dB^(i+j)*(R-w)+dB^(i+j)*1000000000*D=dB^(i+j)*(a[((i:Int)).toNat]! * y+c):=by
      have:a[((i:Int)).toNat]! * y+c=R-w+1000000000*D:=by omega
      rw[this,Int.mul_add,Int.mul_assoc]
     have e3:dB^(i+j)=dB^i*dB^j:=Int.pow_add _ _ _;show WV dB L+dB^(i+j)*(R-w)+dB^(i+j)*1000000000*D=P+dB^i*a[((i:Int)).toNat]! * (WV dB (b.take j)+dB^j*y);generalize a[((i:Int)).toNat]! = x at *
     rw[Int.add_assoc,e2,Int.mul_add,←Int.add_assoc,Int.add_right_comm,hv];rw[e3];grind⟩
   rw[hD,hR,hmm]at next
   rw[hmm]at hm;rw[hy]at next hm gy
   unfold xS;exact gg13
 . subst hs;rw[List.take_length]at hv;unfold xS;exact gg4
theorem Mj (hft:M.FT=FT)(dK:∀ars h,M.ext 242 ars h=none)(a b:List Int)(ha:okW dB a)(hb:okW dB b)(la:a.length<10000000)(lb:b.length<10000000)(h0:0<a.length+b.length):xW M 197 [.vs (aj a) a.length c1,.vs (aj b) b.length c2] (WV dB a*WV dB b):=by
 refine DG (by rw[hft];exact LO) (by simp) ?_;unfold DD;simp only[enter];refine gg6 ?_;have e0:((a.length:Int)+(b.length:Int)).toNat=a.length+b.length:=by omega
 rw[e0];refine W.iQ a.length (fun i s=>∃L a5 a6 a7 lo wr,s=⟨⟨[.vs (aj a) a.length c1,.vs (aj b) b.length c2,.ae,.sl 0 0 (a.length+b.length) 1 (some (a.length+b.length)),.iV i,a5,a6,a7],lo,[some (.cells (aj L) 3)],[]⟩,wr⟩ /\
  L.length=a.length+b.length/\okW dB L/\(∀k,i+b.length<=k->L[k]! = 0)/\WV dB L=WV dB (a.take i)*WV dB b) (fun i s hi ⟨L,a5,a6,a7,lo,wr,hs,hl,bC,hz,hv⟩=>?_) (fun s ⟨L,a5,a6,a7,lo,wr,hs,hl,bC,hz,hv⟩=>?_) (Nat.zero_le _)
  ⟨List.replicate (a.length+b.length) 0,_,_,_,_,_,rfl,by simp,kf (by decide),fun k _=>kj,by rw[kh];simp[WV]⟩
 . subst hs;have gx:=bY ha hi;rw[show a[i]! = a[((i:Int)).toNat]! from rfl]at gx;have eI:0+(((i:Int)+(b.length:Int))).toNat*1=i+b.length:=by omega
   unfold xT;refine gg3 ?_;refine aco (c1:=c1) (c2:=c2) a b hb la lb i hi a[((i:Int)).toNat]! _ gx rfl _ _ _ _ L hl bC hz hv (fun L2 c a7 lo wr h1 h2 h3 h4 h5=>?_);have h4':=h4 _ (Nat.le_refl _);have g0:=bY h2 (i:=i+b.length) (by omega);refine gg15 ?_;refine da ⟨L2.set (i+b.length) (0+c),_,_,_,_,_,rfl,by rw[List.length_set];exact h1,fO h2 (by rw[Int.zero_add];exact h3),fun k hk=>by rw[gA (by omega)];exact h4 k (by omega),?_⟩;rw[fP (by omega),h4',Int.sub_zero,Int.zero_add,h5,eO hi];show _=(WV dB (a.take i)+dB^i*a[i]!)*WV dB b;rw[Int.add_mul];rfl
 . subst hs;rw[List.take_length]at hv;have q:=oK (cap:=some (a.length+b.length)) (b:=0) (n:=a.length+b.length) (L:=L) (e:=3) (hp:=[some (.cells (aj L) 3)]) hft dK rfl (by omega) (by omega) (by omega) (fun c hc=>by cases hc;exact Nat.le_refl _);rw[List.take_of_length_le (by omega)]at q;unfold xT;refine gg15 ?_;refine⟨.inr rfl,rfl,_,rfl,L.take (aN L),?_,?_⟩
   . obtain⟨g1,g2,g3⟩:=oI bC;exact⟨g1,g2,by rw[g3,hv]⟩
   . have:=fU.trim (cap:=some (a.length+b.length)) (b:=0) (L:=L) (e:=3) (hp:=[some (.cells (aj L) 3)]) (n:=a.length+b.length) rfl (by omega);rw[List.take_of_length_le (by omega)]at this;exact this
end Go.Ab.Ch1

/-
  Own work: Knuth's division to the base 10^9: the guess of a digit is at most one too great.
-/
namespace Go.Ab.aY
structure ic (t2 t1 t0 v1 v0 T V p:Int):Prop where
 h2:0<=t2
 h1:0<=t1/\t1<1000000000
 h0:0<=t0/\t0<1000000000
 w1:500000000<=v1/\v1<1000000000
 w0:0<=v0/\v0<1000000000
 hp:1<=p
 lo:((t2*1000000000+t1)*1000000000+t0)*p<=T
 hi:T<((t2*1000000000+t1)*1000000000+t0+1)*p
 pW:(v1*1000000000+v0)*p<=V
 rQ:V<(v1*1000000000+v0+1)*p
 hT:T<1000000000*V
structure iw (t2 t1 v1 T V q r:Int):Prop where
 q0:0<=q/\q<=1000000001
 r0:0<=r
 e:q*v1+r=t2*1000000000+t1
 ge:T<(q+1)*V
variable {t2 t1 t0 v1 v0 T V p q r:Int}
theorem ic.top (C:ic t2 t1 t0 v1 v0 T V p):t2<=v1:=by
 have h1:=C.h1;have h0:=C.h0;have w0:=C.w0;have a1:((t2*1000000000+t1)*1000000000+t0)*p<(1000000000*(v1*1000000000+v0+1))*p:=by
  have:=C.lo;have:=C.hT;have:=C.rQ;rw[Int.mul_assoc 1000000000];omega
 have a2:=Int.lt_of_mul_lt_mul_right a1 (by have:=C.hp;omega);omega
theorem ic.geq (C:ic t2 t1 t0 v1 v0 T V p)(h0:0<=q)(h:(t2*1000000000+t1)*1000000000+t0+1<=q*(v1*1000000000+v0)):T<q*V:=by
 have hp:=C.hp;have a1:=Int.mul_le_mul_of_nonneg_right h (show 0<=p by omega);have a2:=Int.mul_le_mul_of_nonneg_left C.pW h0;rw[←Int.mul_assoc]at a2;have:=C.hi;omega
theorem iw.qD (I:iw t2 t1 v1 T V q r):q*(v1*1000000000+v0)=(t2*1000000000+t1-r)*1000000000+q*v0:=by
 have e:=I.e;have:t2*1000000000+t1-r=q*v1:=by omega
 rw[this,Int.mul_add,Int.mul_assoc]
theorem iw.init (C:ic t2 t1 t0 v1 v0 T V p):iw t2 t1 v1 T V ((t2*1000000000+t1)/v1) ((t2*1000000000+t1)%v1):=by
 have h2:=C.h2;have h1:=C.h1;have w1:=C.w1;have h0:=C.h0;have w0:=C.w0;have ht:=C.top;have q0:0<=(t2*1000000000+t1)/v1:=Int.ediv_nonneg (by omega) (by omega);have q1:(t2*1000000000+t1)/v1<1000000002:=Int.ediv_lt_of_lt_mul (by omega) (by omega);have e:=Int.mul_ediv_add_emod (t2*1000000000+t1) v1;have r0:=Int.emod_nonneg (t2*1000000000+t1) (show v1≠0 by omega);have r1:=Int.emod_lt_of_pos (t2*1000000000+t1) (show 0<v1 by omega);rw[Int.mul_comm]at e;refine⟨⟨q0,by omega⟩,r0,e,C.geq (by omega) ?_⟩;generalize (t2*1000000000+t1)/v1=q at *
 generalize (t2*1000000000+t1)%v1=r at *
 have a1:(q+1)*(v1*1000000000+v0)=(q*v1+v1)*1000000000+(q+1)*v0:=by grind
 have a2:0<=(q+1)*v0:=Int.mul_nonneg (by omega) w0.1;rw[a1];generalize q*v1=z at *
 generalize (q+1)*v0=y at *
 omega
theorem ic.V0 (C:ic t2 t1 t0 v1 v0 T V p):0<V:=by
 have:=C.w1;have:=C.w0;have:=C.pW;have:=Int.mul_pos (show 0<v1*1000000000+v0 by omega) (show 0<p by have:=C.hp;omega);omega
theorem iw.dec (C:ic t2 t1 t0 v1 v0 T V p)(I:iw t2 t1 v1 T V q r)(h:1000000000<=q\/r*1000000000+t0<q*v0):iw t2 t1 v1 T V (q-1) (r+v1):=by
 have w1:=C.w1;have q0:=I.q0;have r0:=I.r0;have h0:=C.h0;have q1:0<q:=by
  rcases Int.lt_or_le 0 q with h'|h'
  . exact h'
  . obtain rfl:q=0:=by omega
    omega
 refine⟨by omega,by omega,by have:=I.e;rw[Int.sub_mul];omega,?_⟩;rw[Int.sub_add_cancel];rcases h with h|h
 . have hT:=C.hT;have:=Int.mul_le_mul_of_nonneg_right h (Int.le_of_lt C.V0);omega
 . refine C.geq (by omega) ?_;rw[I.qD];omega
theorem iw.exit (C:ic t2 t1 t0 v1 v0 T V p)(I:iw t2 t1 v1 T V q r)(hq:q<1000000000)(h:q*v0<=r*1000000000+t0):(q-1)*V<=T:=by
 have w1:=C.w1;have q0:=I.q0;have r0:=I.r0;have w0:=C.w0;have hp:=C.hp;have a1:q*(v1*1000000000+v0)<=(t2*1000000000+t1)*1000000000+t0:=by rw[I.qD];omega
 have a2:=Int.mul_le_mul_of_nonneg_right a1 (show 0<=p by omega);have a3:=Int.mul_le_mul_of_nonneg_left (Int.le_of_lt C.rQ) q0.1;have a4:q*((v1*1000000000+v0+1)*p)=q*(v1*1000000000+v0)*p+q*p:=by grind
 have a5:=Int.mul_le_mul_of_nonneg_right (show q<=1000000000 by omega) (show 0<=p by omega);have a6:=Int.mul_le_mul_of_nonneg_right (show 1000000000<=v1*1000000000+v0 by omega) (show 0<=p by omega);have a7:=C.pW;have a8:=C.lo;rw[Int.sub_mul,Int.one_mul];omega
theorem iw.mF (C:ic t2 t1 t0 v1 v0 T V p)(I:iw t2 t1 v1 T V q r)(h:1000000000<=r):q<1000000000/\(q-1)*V<=T:=by
 have q0:=I.q0;have w0:=C.w0;have h0:=C.h0;have w1:=C.w1;have h1:=C.h1;have ht:=C.top;have hq:q<1000000000:=by
  rcases Int.lt_or_le q 1000000000 with h'|h'
  . exact h'
  . have a:=Int.mul_le_mul_of_nonneg_right h' (show 0<=v1 by omega);have e:=I.e;omega
 refine⟨hq,I.exit C hq ?_⟩;have h3:=Int.mul_le_mul (a:=q) (b:=v0) (c:=999999999) (d:=999999999) (by omega) (by omega) w0.1 (by omega);omega
theorem ic.of {X V:List Int}{n:Nat}(hX:X.length=n+3)(hV:V.length=n+2)(oX:okW 1000000000 X)(oV:okW 1000000000 V)(hv:500000000<=V[n+1]!)(hT:WV 1000000000 X<1000000000*WV 1000000000 V) :
 ic X[n+2]! X[n+1]! X[n]! V[n+1]! V[n]! (WV 1000000000 X) (WV 1000000000 V) (1000000000^n):=by
 have x2:=bY oX (i:=n+2) (by omega);have x1:=bY oX (i:=n+1) (by omega);have x0:=bY oX (i:=n) (by omega);have v1:=bY oV (i:=n+1) (by omega);have v0:=bY oV (i:=n) (by omega);have eX:WV 1000000000 X=WV 1000000000 (X.take n)+((X[n+2]! * 1000000000+X[n+1]!)*1000000000+X[n]!)*1000000000^n:=by
  rw[iU (n:=n+2) (by omega),eO (by omega),eO (by omega),Int.pow_succ,Int.pow_succ];grind
 have eV:WV 1000000000 V=WV 1000000000 (V.take n)+(V[n+1]! * 1000000000+V[n]!)*1000000000^n:=by
  rw[iU (n:=n+1) (by omega),eO (by omega),Int.pow_succ];grind
 have lX:=dr (b:=1000000000) (by decide) (dm oX n);have lV:=dr (b:=1000000000) (by decide) (dm oV n);have pX:=cn (b:=1000000000) (by decide) (dm oX n);have pV:=cn (b:=1000000000) (by decide) (dm oV n);rw[List.length_take,Nat.min_eq_left (by omega)]at lX lV;have hp:(0:Int)<1000000000^n:=Int.pow_pos (by decide);refine⟨x2.1,x1,x0,⟨hv,v1.2⟩,v0,by omega,by omega,?_,by omega,?_,hT⟩
 . rw[Int.add_mul _ 1,Int.one_mul];omega
 . rw[Int.add_mul _ 1,Int.one_mul];omega
end Go.Ab.aY

/-
  Own work: the reference's integers: the guess of a digit.
-/
namespace Go.Ab.Ch1
open Go.Ab.aY
variable {M:ax} {cap c1 c2:Option Nat}
theorem afD {t m m':Nat}{x:aL}{l:List aU}{pe:List AV}{lo:List (Nat×AV)}{hp:ab}{df wr:List Nat}{L:List Int}{v:Int}{Q:ao->Prop}(hx:(St.mk pe lo hp df).aa x=some (.vp ((aj L).drop (m'*1))))(hm:m'=m)(hi:m<L.length)(hv:L[m]! = v)
 (h:WO M l ⟨⟨pe,(t,.iV v)::lo,hp,df⟩,wr⟩ Q):WO M (⟨.l t,.load 1 false x,none⟩::l) ⟨⟨pe,lo,hp,df⟩,wr⟩ Q:=by
 subst hm;subst hv;exact afu (f:=iC) (esz:=1) (c:=L) (i:=m') hx (fun _=>rfl) hi (by decide) rfl h
variable {k j:Nat} {U V:List Int}
theorem acp (hV:V.length=k+2)(hU:j+k+2<U.length)(lU:U.length<100000000){t2 t1 t0 v1 v0 T D p:Int}(K:ic t2 t1 t0 v1 v0 T D p)(ht0:U[j+k]! = t0)(hv1:V[k+1]! = v1)(hv0:V[k]! = v0){Q:Ex->ao->Prop}(a3 a5:AV)
 (hR:∀(q r:Int) lo wr,(0<=q/\q<1000000000)->T<(q+1)*D->(q-1)*D<=T->Q .ret ⟨⟨[.vs (aj U) U.length c1,.vs (aj V) V.length c2,.iV j,.iV q,.iV V.length,a5,.iV q,.iV r],lo,[],[]⟩,wr⟩)
 (hQ:∀(q r:Int) lo wr,(0<=q/\q<1000000000)->T<(q+1)*D->(q-1)*D<=T->Q (.exit 0) ⟨⟨[.vs (aj U) U.length c1,.vs (aj V) V.length c2,.iV j,a3,.iV V.length,a5,.iV q,.iV r],lo,[],[]⟩,wr⟩)
 (q r:Int) (lo:List (Nat×AV)) (wr:List Nat) (I:iw t2 t1 v1 T D q r) (hr:r<1000000000) :
 W M (.loop sY) ⟨⟨[.vs (aj U) U.length c1,.vs (aj V) V.length c2,.iV j,a3,.iV V.length,a5,.iV q,.iV r],lo,[],[]⟩,wr⟩ Q:=by
 refine W.fE (fun m s=>∃q r lo wr,s=⟨⟨[.vs (aj U) U.length c1,.vs (aj V) V.length c2,.iV j,a3,.iV V.length,a5,.iV q,.iV r],lo,[],[]⟩,wr⟩/\m=q.toNat/\iw t2 t1 v1 T D q r/\r<1000000000) (fun m s ⟨q,r,lo,wr,hs,hm,I,hr⟩=>?_) (m:=q.toNat) ⟨q,r,lo,wr,rfl,rfl,I,hr⟩;subst hs;subst hm;have q0:=I.q0;have r0:=I.r0;have w0:=K.w0;have w1:=K.w1;have h0:=K.h0;have step:(1000000000<=q\/r*1000000000+t0<q*v0)->0<q/\∀lo wr,(r+v1<1000000000->LI (fun s=>∃m',m'<q.toNat/\∃q r lo wr,s=⟨⟨[.vs (aj U) U.length c1,.vs (aj V) V.length c2,.iV j,a3,.iV V.length,a5,.iV q,.iV r],lo,[],[]⟩,wr⟩/\m'=q.toNat/\iw t2 t1 v1 T D q r/\r<1000000000) Q .normal ⟨⟨[.vs (aj U) U.length c1,.vs (aj V) V.length c2,.iV j,a3,.iV V.length,a5,.iV (q-1),.iV (r+v1)],lo,[],[]⟩,wr⟩) /\
  (1000000000<=r+v1->Q .ret ⟨⟨[.vs (aj U) U.length c1,.vs (aj V) V.length c2,.iV j,.iV (q-1),.iV V.length,a5,.iV (q-1),.iV (r+v1)],lo,[],[]⟩,wr⟩):=fun h=>by
  have I2:=I.dec K h;have i0:=I2.q0;refine⟨by omega,fun lo wr=>⟨fun h1=>da ⟨(q-1).toNat,by omega,_,_,_,_,rfl,rfl,I2,h1⟩,fun h1=>?_⟩⟩;obtain⟨b1,b2⟩:=I2.mF K h1;exact hR _ _ _ _ ⟨i0.1,b1⟩ I2.ge b2
 obtain⟨m,hm⟩:∃m,m=q*v0:=⟨_,rfl⟩;have hmb:0<=m/\m<=1000000001000000001:=by
  rw[hm];refine⟨Int.mul_nonneg q0.1 w0.1,?_⟩;have:=Int.mul_le_mul (a:=q) (b:=v0) (c:=1000000001) (d:=1000000000) (by omega) (by omega) w0.1 (by omega);omega
 by_cases hB:1000000000<=q
 . obtain⟨hq,st⟩:=step (.inl hB);unfold sY;repeat' first|(apply afD (m:=k+1) (v:=v1);rfl;omega;omega;exact hv1)|apply aap|apply aM|apply aaF|apply aaY|apply acS|apply abu|apply abJ|apply cX|apply fx|apply Hk|(apply afB;rfl)|(apply abz;rfl)|(apply abF;rfl)|(apply afz;rfl)|(apply aeN;rfl;rfl)|(apply acR;rfl;rfl)|(apply ael;rfl;rfl;omega)|(apply aes;rfl;rfl;omega)|(apply aeX;rfl;rfl;omega)|(apply aab;rfl;rfl)|(apply aaZ;rfl;rfl)|(intro _;omega)|intro _
   all_goals try omega
   all_goals first|exact(st _ _).1 (by omega)|exact(st _ _).2 (by omega)
 . by_cases ht:r*1000000000+t0<q*v0
   . obtain⟨hq,st⟩:=step (.inr ht);rw[←hm]at ht;rw[hm]at ht hmb;unfold sY;repeat' first|(apply afD (L:=V) (m:=k+1) (v:=v1);rfl;omega;omega;exact hv1)|(apply afD (L:=V) (m:=k) (v:=v0);rfl;omega;omega;exact hv0)|(apply afD (L:=U) (m:=j+k) (v:=t0);rfl;omega;omega;exact ht0)|apply aap|apply aM|apply aaF|apply aaY|apply acS|apply abu|apply abJ|apply cX|apply fx|apply Hk|(apply afB;rfl)|(apply abz;rfl)|(apply abF;rfl)|(apply aeP;rfl)|(apply adU;rfl;rfl)|(apply aeN;rfl;rfl)|(apply adM;rfl;rfl)|(apply ael;rfl;rfl;omega)|(apply aes;rfl;rfl;omega)|(apply afF;rfl;rfl;omega)|(apply aeX;rfl;rfl;omega)|(apply aab;rfl;rfl)|(apply aaZ;rfl;rfl)|(intro _;omega)|intro _
     all_goals try omega
     all_goals first|exact(st _ _).1 (by omega)|exact(st _ _).2 (by omega)
   . have fin:=I.exit K (by omega) (by omega);rw[hm]at hmb;unfold sY;exact gg4
theorem acq (hft:M.FT=FT)(hV:V.length=k+2)(hU:j+k+2<U.length)(lU:U.length<100000000){t2 t1 t0 v1 v0 T D p:Int}(K:ic t2 t1 t0 v1 v0 T D p)(ht2:U[j+k+2]! = t2)(ht1:U[j+k+1]! = t1)(ht0:U[j+k]! = t0)(hv1:V[k+1]! = v1)(hv0:V[k]! = v0) :
 ∃q:Int,(0<=q/\q<1000000000)/\T<(q+1)*D/\(q-1)*D<=T/\aT M 243 [.vs (aj U) U.length c1,.vs (aj V) V.length c2,.iV j] [] ⟨.iV q,[],[]⟩:=by
 have h2:=K.h2;have h1:=K.h1;have w1:=K.w1;have h0:=K.h0;have w0:=K.w0;have htop:=K.top;have I:=iw.init K;have r1:=Int.emod_lt_of_pos (t2*1000000000+t1) (show 0<v1 by omega);obtain⟨v,hh,⟨q,rfl,rfl,g1,g2,g3⟩,hr⟩:=fZ (M:=M) (f:=243) (ars:=[.vs (aj U) U.length c1,.vs (aj V) V.length c2,.iV j]) (P:=fun v hh=>∃q:Int,v = .iV q/\hh=[]/\(0<=q/\q<1000000000)/\T<(q+1)*D/\(q-1)*D<=T) (by rw[hft];exact abT) (by simp) (by
  unfold LR;simp only[enter];refine gg17 ?_;refine acp hV hU lU K ht0 hv1 hv0 _ _ (fun q r lo wr g1 g2 g3=>?_) (fun q r lo wr g1 g2 g3=>?_) _ _ _ _ I (by omega)
  . exact gg1
  . repeat' first|apply aap|apply aM|apply aaF|apply aaY|apply abu|apply fy|(apply aab;rfl;rfl)|(apply aaZ;rfl;rfl)
    all_goals exact⟨.inr rfl,rfl,_,rfl,q,rfl,rfl,g1,g2,g3⟩)
 exact⟨q,g1,g2,g3,hr⟩
end Go.Ab.Ch1

/-
  Own work: the reference's integers: a step of long division: the loops.
-/
namespace Go.Ab.Ch1
open Go.Ab.aY
variable {M:ax} {cap c1 c2 cu:Option Nat}
variable {bu N:Nat} {e:TypeId} {hp:ab} {P S Y V:List Int}
theorem acr (hl:bu<hp.length)(lN:N<100000000)(hN:P.length+V.length<N)(hY:Y.length=V.length)(oY:okW dB Y)(oV:okW dB V)(q:Int)(q0:0<=q/\q<1000000000){Q:Ex->ao->Prop}(a0 a1 a2 a3 a4 a5 a6 aA aF aG aH aI aJ aK:AV)(lo:List (Nat×AV))(wr:List Nat)
 (hQ:∀L (bo:Int) aF aG lo wr,L.length=V.length->okW dB L->(0<=bo/\bo<1000000000)->WV dB L=WV dB Y-q*WV dB V+dB^V.length*bo ->
   Q (.exit 4) ⟨⟨[a0,a1,a2,a3,a4,a5,a6,.vs (aj V) V.length c2,.iV V.length,.sl bu 0 N 1 cu,aA,.iV P.length,.iV q,.iV bo,.iV V.length,aF,aG,aH,aI,aJ,aK],lo,cM hp bu e P S L,[]⟩,wr⟩) :
 W M (.loop xP) ⟨⟨[a0,a1,a2,a3,a4,a5,a6,.vs (aj V) V.length c2,.iV V.length,.sl bu 0 N 1 cu,aA,.iV P.length,.iV q,.iV 0,.iV 0,aF,aG,aH,aI,aJ,aK],lo,cM hp bu e P S Y,[]⟩,wr⟩ Q:=by
 refine W.iQ V.length (fun i s=>∃L bo aF aG lo wr,s=⟨⟨[a0,a1,a2,a3,a4,a5,a6,.vs (aj V) V.length c2,.iV V.length,.sl bu 0 N 1 cu,aA,.iV P.length,.iV q,.iV bo,.iV i,aF,aG,aH,aI,aJ,aK],lo,cM hp bu e P S L,[]⟩,wr⟩ /\
  L.length=V.length/\okW dB L/\(0<=bo/\bo<1000000000)/\WV dB L=WV dB Y-q*WV dB (V.take i)+dB^i*bo) (fun i s hi ⟨L,bo,aF,aG,lo,wr,hs,hL,oL,hbo,hv⟩=>?_) (fun s ⟨L,bo,aF,aG,lo,wr,hs,hL,oL,hbo,hv⟩=>?_) (Nat.zero_le _)
  ⟨_,_,_,_,_,_,rfl,hY,oY,⟨by decide,by decide⟩,by simp[WV]⟩
 . subst hs;have gy:=bY oV (i:=i) (by omega);obtain⟨y,hy⟩:∃y,y=V[i]! := ⟨_,rfl⟩;rw[←hy]at gy;have gy:0<=y/\y<1000000000:=gy;have gL:=bY oL (i:=i) (by omega);obtain⟨u,hu⟩:∃u,u=L[i]! := ⟨_,rfl⟩;rw[←hu]at gL;have gL:0<=u/\u<1000000000:=gL;have hm:=Mi q0 gy;obtain⟨m,hmm⟩:∃m,m=q*y:=⟨_,rfl⟩;rw[←hmm]at hm;have next:∀(D d:Int) aF aG lo,(0<=D/\D<1000000000)->(0<=d/\d<1000000000)->u-m-bo=d-1000000000*D->LI (fun s=>∃L bo aF aG lo wr,s=⟨⟨[a0,a1,a2,a3,a4,a5,a6,.vs (aj V) V.length c2,.iV V.length,.sl bu 0 N 1 cu,aA,.iV P.length,.iV q,.iV bo,.iV ((i+1:Nat):Int),aF,aG,aH,aI,aJ,aK],lo,cM hp bu e P S L,[]⟩,wr⟩ /\
    L.length=V.length/\okW dB L/\(0<=bo/\bo<1000000000)/\WV dB L=WV dB Y-q*WV dB (V.take (i+1))+dB^(i+1)*bo) Q .normal ⟨⟨[a0,a1,a2,a3,a4,a5,a6,.vs (aj V) V.length c2,.iV V.length,.sl bu 0 N 1 cu,aA,.iV P.length,.iV q,.iV D,.iV ((i:Int)+1),aF,aG,aH,aI,aJ,aK],lo,cM hp bu e P S (L.set i d),[]⟩,bu::wr⟩:=fun D d aF aG lo hD hd he=>
    da ⟨_,_,aF,aG,lo,_,rfl,by rw[List.length_set];exact hL,fO oL hd,hD,by
     rw[fP (by omega),←hu,eO (by omega),←hy,hv,Int.pow_succ];have e1:d-u=1000000000*D-q*y-bo:=by rw[←hmm];omega
     rw[e1];show _+dB^i*(1000000000*D-q*y-bo)=_-_+dB^i*1000000000*D;grind⟩
   have hV':V[((i:Int)).toNat]! = y:=hy.symm;rw[hmm]at hm next
   rw[hu]at gL next
   unfold xP;exact gg13
 . subst hs;rw[List.take_length]at hv;unfold xP;exact gg4
theorem acs (hl:bu<hp.length)(lN:N<100000000)(hN:P.length+V.length<N)(hY:Y.length=V.length)(oY:okW dB Y)(oV:okW dB V){Q:Ex->ao->Prop}(a0 a1 a2 a3 a4 a5 a6 aA aC aD aE aF aG aJ aK:AV)(lo:List (Nat×AV))(wr:List Nat)
 (hQ:∀L (ca:Int) aJ lo wr,L.length=V.length->okW dB L->(0<=ca/\ca<=1)->WV dB L+dB^V.length*ca=WV dB Y+WV dB V ->
   Q (.exit 6) ⟨⟨[a0,a1,a2,a3,a4,a5,a6,.vs (aj V) V.length c2,.iV V.length,.sl bu 0 N 1 cu,aA,.iV P.length,aC,aD,aE,aF,aG,.iV ca,.iV V.length,aJ,aK],lo,cM hp bu e P S L,[]⟩,wr⟩) :
 W M (.loop xQ) ⟨⟨[a0,a1,a2,a3,a4,a5,a6,.vs (aj V) V.length c2,.iV V.length,.sl bu 0 N 1 cu,aA,.iV P.length,aC,aD,aE,aF,aG,.iV 0,.iV 0,aJ,aK],lo,cM hp bu e P S Y,[]⟩,wr⟩ Q:=by
 refine W.iQ V.length (fun i s=>∃L ca aJ lo wr,s=⟨⟨[a0,a1,a2,a3,a4,a5,a6,.vs (aj V) V.length c2,.iV V.length,.sl bu 0 N 1 cu,aA,.iV P.length,aC,aD,aE,aF,aG,.iV ca,.iV i,aJ,aK],lo,cM hp bu e P S L,[]⟩,wr⟩ /\
  L.length=V.length/\okW dB L/\(0<=ca/\ca<=1)/\WV dB L+dB^i*ca=WV dB Y+WV dB (V.take i)) (fun i s hi ⟨L,ca,aJ,lo,wr,hs,hL,oL,hca,hv⟩=>?_) (fun s ⟨L,ca,aJ,lo,wr,hs,hL,oL,hca,hv⟩=>?_) (Nat.zero_le _)
  ⟨_,_,_,_,_,rfl,hY,oY,⟨by decide,by decide⟩,by simp[WV]⟩
 . subst hs;have gy:=bY oV (i:=i) (by omega);obtain⟨y,hy⟩:∃y,y=V[i]! := ⟨_,rfl⟩;rw[←hy]at gy;have gy:0<=y/\y<1000000000:=gy;have gL:=bY oL (i:=i) (by omega);obtain⟨u,hu⟩:∃u,u=L[i]! := ⟨_,rfl⟩;rw[←hu]at gL;have gL:0<=u/\u<1000000000:=gL;have next:∀(D d:Int) aJ lo wr,(0<=D/\D<=1)->(0<=d/\d<1000000000)->u+y+ca=d+1000000000*D->LI (fun s=>∃L ca aJ lo wr,s=⟨⟨[a0,a1,a2,a3,a4,a5,a6,.vs (aj V) V.length c2,.iV V.length,.sl bu 0 N 1 cu,aA,.iV P.length,aC,aD,aE,aF,aG,.iV ca,.iV ((i+1:Nat):Int),aJ,aK],lo,cM hp bu e P S L,[]⟩,wr⟩ /\
    L.length=V.length/\okW dB L/\(0<=ca/\ca<=1)/\WV dB L+dB^(i+1)*ca=WV dB Y+WV dB (V.take (i+1))) Q .normal ⟨⟨[a0,a1,a2,a3,a4,a5,a6,.vs (aj V) V.length c2,.iV V.length,.sl bu 0 N 1 cu,aA,.iV P.length,aC,aD,aE,aF,aG,.iV D,.iV ((i:Int)+1),aJ,aK],lo,cM hp bu e P S (L.set i d),[]⟩,wr⟩:=fun D d aJ lo wr hD hd he=>
    da ⟨_,_,aJ,lo,_,rfl,by rw[List.length_set];exact hL,fO oL hd,hD,by
     rw[fP (by omega),←hu,eO (by omega),←hy,Int.pow_succ];have e1:d-u=y+ca-1000000000*D:=by omega
     rw[e1];show WV dB L+dB^i*(y+ca-1000000000*D)+dB^i*1000000000*D=_;grind⟩
   rw[hu]at gL next
   unfold xQ;exact gg13
 . subst hs;rw[List.take_length]at hv;unfold xQ;exact gg4
end Go.Ab.Ch1

/-
  Own work: the reference's integers: a step of long division, and all of them.
-/
namespace Go.Ab.Ch1
open Go.Ab.aY
variable {M:ax} {cap c1 c2 cu cq:Option Nat}
theorem acu {U V:List Int}{i k:Nat}(hj:i+(k+3)<=U.length)(oU:okW dB U)(hV:V.length=k+2)(oV:okW dB V)(hup:WV dB (U.drop (i+1))<WV dB V) :
 ∃P Y S,U=P++(Y++[U[i+k+2]!])++S/\P.length=i/\Y.length=k+2/\okW dB P/\okW dB Y/\okW dB S/\(0<=U[i+k+2]! /\ U[i+k+2]! < 1000000000)/\WV dB S=0/\WV dB (Y++[U[i+k+2]!])=WV dB (U.drop i)/\WV dB (Y++[U[i+k+2]!])<1000000000*WV dB V:=by
 obtain⟨P,hP⟩:∃P,P=U.take i:=⟨_,rfl⟩;obtain⟨X,hX⟩:∃X,X=(U.drop i).take (k+3):=⟨_,rfl⟩;obtain⟨S,hS⟩:∃S,S=U.drop (i+(k+3)):=⟨_,rfl⟩;have eU:U=P++X++S:=by
  rw[hP,hX,hS,List.append_assoc,←List.drop_drop,List.take_append_drop,List.take_append_drop]
 have lP:P.length=i:=by rw[hP,List.length_take];omega
 have lX:X.length=k+3:=by rw[hX,List.length_take,List.length_drop];omega
 have oX:okW dB X:=by rw[hX];exact dm (iR oU _) _
 have oS:okW dB S:=by rw[hS];exact iR oU _
 have oP:okW dB P:=by rw[hP];exact dm oU _
 have eD:U.drop i=X++S:=by rw[eU,←lP,List.append_assoc,List.drop_left]
 have gj:=bY oU (i:=i) (by omega);have d1:=nW (b:=dB) (l:=U) (i:=i) (by omega);have lt:=dr (b:=dB) (by decide) oV;rw[hV]at lt;have hpow:(0:Int)<dB^(k+2):=Int.pow_pos (by decide);have hS0:WV dB S=0:=by
  have h1:WV dB (U.drop (i+1))=WV dB ((U.drop (i+1)).take (k+2))+dB^(k+2)*WV dB S:=by
   have:=lj (b:=dB) (l:=U.drop (i+1)) (i:=k+2) (by rw[List.length_drop];omega);rwa [List.drop_drop,show i+1+(k+2)=i+(k+3) by omega,←hS]at this
  have h2:=cn (b:=dB) (by decide) (dm (iR oU (i+1)) (k+2));have h3:=cn (b:=dB) (by decide) oS;rcases Int.lt_or_le 0 (WV dB S) with h|h
  . have:=Int.mul_le_mul_of_nonneg_left (show 1<=WV dB S by omega) (Int.le_of_lt hpow);omega
  . omega
 have hXD:WV dB X=WV dB (U.drop i):=by rw[eD,fF,hS0,Int.mul_zero,Int.add_zero]
 have hT:WV dB X<1000000000*WV dB V:=by
  rw[hXD,d1];have gj:0<=U[i]! /\ U[i]! < 1000000000:=gj;show _+1000000000*_<1000000000*_;omega
 have hXt:X[k+2]! = U[i+k+2]! := by
  rw[hX];simp only[List.getElem!_eq_getElem?_getD];rw[List.getElem?_take_of_lt (by omega),List.getElem?_drop,Nat.add_assoc]
 have gt:=bY oX (i:=k+2) (by omega);have eX:X=X.take (k+2)++[X[k+2]!]:=by
  have h1:X.take (k+2+1)=X:=List.take_of_length_le (by omega);conv=>lhs;rw[←h1]
  rw[List.take_add_one,List.getElem?_eq_getElem (by omega),getElem!_pos X (k+2) (by omega),Option.toList_some]
 rw[hXt]at eX gt;refine⟨P,X.take (k+2),S,by rw[←eX];exact eU,lP,by rw[List.length_take];omega,oP,dm oX _,oS,gt,hS0,by rw[←eX];exact hXD,by rw[←eX];exact hT⟩
theorem acv {L V:List Int}{T q d n:Int}{m:Nat}(hn:n=dB^m)(oL:okW dB L)(hL:L.length=m)(oV:okW dB V)(hV:V.length=m)(h:WV dB L+n*d=T-q*WV dB V)(hge:T<(q+1)*WV dB V)(hd:¬d<0):d=0/\WV dB L=T-q*WV dB V/\WV dB L<WV dB V:=by
 subst hn;have lV:=dr (b:=dB) (by decide) oV;have l0:=cn (b:=dB) (by decide) oL;have hp:0<dB^m:=Int.pow_pos (by decide);rw[hV]at lV;rw[Int.add_mul,Int.one_mul]at hge;have d0:d=0:=by
  rcases Int.lt_or_le 0 d with h'|h'
  . have:=Int.mul_le_mul_of_nonneg_left (show 1<=d by omega) (Int.le_of_lt hp);omega
  . omega
 subst d0;rw[Int.mul_zero,Int.add_zero]at h;exact⟨rfl,h,by omega⟩
theorem acw {L L2 V:List Int}{T q d n ca:Int}{m:Nat}(hn:n=dB^m)(oL:okW dB L)(hL:L.length=m)(oL2:okW dB L2)(hL2:L2.length=m)(oV:okW dB V)(hV:V.length=m)(h:WV dB L+n*d=T-q*WV dB V)(hle:(q-1)*WV dB V<=T)(hT0:0<=T)(hd:d<0)(q0:0<=q)(h2:WV dB L2+n*ca=WV dB L+WV dB V):1<=q/\d+ca=0/\WV dB L2=T-(q-1)*WV dB V/\WV dB L2<WV dB V:=by
 subst hn;have lL:=dr (b:=dB) (by decide) oL;have lL2:=dr (b:=dB) (by decide) oL2;have lV:=dr (b:=dB) (by decide) oV;have l0:=cn (b:=dB) (by decide) oL2;have hp:0<dB^m:=Int.pow_pos (by decide);rw[hV]at lV;rw[hL]at lL;rw[hL2]at lL2;have hneg:T-q*WV dB V<0:=by
  have:=Int.mul_le_mul_of_nonneg_left (show d <= -1 by omega) (Int.le_of_lt hp);omega
 have q1:1<=q:=by
  rcases Int.lt_or_le 0 q with h'|h'
  . omega
  . obtain rfl:q=0:=by omega
    rw[Int.zero_mul]at hneg;omega
 rw[Int.sub_mul,Int.one_mul]at hle ⊢;have hs:WV dB L2+dB^m*(d+ca)=T-q*WV dB V+WV dB V:=by rw[Int.mul_add];omega
 have d0:d+ca=0:=by
  rcases Int.lt_or_le 0 (d+ca) with h'|h'
  . have:=Int.mul_le_mul_of_nonneg_left (show 1<=d+ca by omega) (Int.le_of_lt hp);omega
  . rcases Int.lt_or_le (d+ca) 0 with h''|h''
    . have:=Int.mul_le_mul_of_nonneg_left (show d+ca <= -1 by omega) (Int.le_of_lt hp);omega
    . omega
 rw[d0,Int.mul_zero,Int.add_zero]at hs;exact⟨q1,d0,by omega,by omega⟩
structure Mk (M:ax):Prop where
 ft:M.FT=FT
 dK:∀ars h,M.ext 242 ars h=none
 Ml:∀(U V:List Int) (bu i k:Nat) cu c2 e h (T D p:Int),h.at bu=some (.cells (aj U) e)->V.length=k+2->i+k+2<U.length->U.length<100000000->ic U[i+k+2]! U[i+k+1]! U[i+k]! V[k+1]! V[k]! T D p->∃q:Int,(0<=q/\q<1000000000)/\T<(q+1)*D/\(q-1)*D<=T/\M.ext 243 [.sl bu 0 U.length 1 cu,.vs (aj V) V.length c2,.iV i] h=some ⟨.iV q,h,[]⟩
theorem acx {hp:ab}{b:Nat}{e:TypeId}{P S X U:List Int}(hU:hp.at b=some (.cells (aj U) e))(h:U=P++X++S):cM hp b e P S X=hp:=by
 unfold cM;rw[←h];exact Hg hU
theorem acy {hp:ab}{b:Nat}{e:TypeId}{P S X:List Int}(hl:b<hp.length):(cM hp b e P S X).at b=some (.cells (aj (P++X++S)) e):=dg hl
theorem DL {hp:ab}{b c:Nat}{e:TypeId}{P S X:List Int}(h:b≠c):(cM hp b e P S X).at c=hp.at c:=vt h
theorem DM {hp:ab}{b:Nat}{e:TypeId}{P S X:List Int}{t:Int}:cM hp b e P (t::S) X=cM hp b e (P++X) S [t]:=by
 unfold cM;rw[show P++X++(t::S)=P++X++[t]++S by simp]
section
variable {t bu m:Nat} {x y:aL} {l:List aU} {pe:List AV} {lo:List (Nat×AV)} {hp:ab} {df wr:List Nat} {P S:List Int} {e:TypeId} {v d:Int} {Q:ao->Prop}
theorem agF (hx:(St.mk pe lo (cM hp bu e P S [v]) df).aa x=some (.ptr bu m))(hl:bu<hp.length)(hm:m=P.length)
 (h:WO M l ⟨⟨pe,(t,.iV v)::lo,cM hp bu e P S [v],df⟩,wr⟩ Q):WO M (⟨.l t,.load 1 false x,none⟩::l) ⟨⟨pe,lo,cM hp bu e P S [v],df⟩,wr⟩ Q:=
 agH (i:=0) hx hl Nat.zero_lt_one hm h
theorem agG (hx:(St.mk pe lo (cM hp bu e P S [v]) df).aa x=some (.ptr bu m))(hy:(St.mk pe lo (cM hp bu e P S [v]) df).aa y=some (.iV d))(hl:bu<hp.length)(hm:m=P.length)
 (h:WO M l ⟨⟨pe,lo,cM hp bu e P S [d],df⟩,bu::wr⟩ Q):WO M (⟨.no,.store 1 x y,none⟩::l) ⟨⟨pe,lo,cM hp bu e P S [v],df⟩,wr⟩ Q:=
 agI (i:=0) hx hy hl Nat.zero_lt_one hm h
end
end Go.Ab.Ch1

/-
  Own work: the reference's integers: long division: all steps.
-/
namespace Go.Ab.Ch1
open Go.Ab.aY
variable {M:ax} {cap c1 c2 cu cq:Option Nat}
theorem acz (C:Mk M){k N bu bq bf:Nat}{V U0:List Int}{fb:bw}(hbq:bu≠bq)(hbf:bu≠bf/\bq≠bf)(lN:N<100000000)(hN:k+3<=N)(hV:V.length=k+2)(oV:okW dB V)(hv:500000000<=V[k+1]!)(hU0:U0.length=N)(oU0:okW dB U0)(hup:WV dB (U0.drop (N-(k+2)))<WV dB V){Q:Ex->ao->Prop}(a0 a1 a2 a3 a4 a5 a6:AV)
 (hQ:∀U L K aC aD aE aF aG aH aI aJ aK lo wr,U.length=N->okW dB U->L.length=N-(k+2)->okW dB L->WV dB U0=WV dB V*WV dB L+WV dB U->WV dB U<WV dB V->ab.at K bu=some (.cells (aj U) 3)->ab.at K bq=some (.cells (aj L) 3)->ab.at K bf=some fb ->
   Q (.exit 2) ⟨⟨[a0,a1,a2,a3,a4,a5,a6,.vs (aj V) V.length c2,.iV V.length,.sl bu 0 N 1 cu,.sl bq 0 (N-(k+2)) 1 cq,.iV (-1),aC,aD,aE,aF,aG,aH,aI,aJ,aK],lo,K,[]⟩,wr⟩)
 (aC aD aE aF aG aH aI aJ aK:AV) (K:ab) (lo:List (Nat×AV)) (wr:List Nat) (hKu:K.at bu=some (.cells (aj U0) 3)) (hKq:K.at bq=some (.cells (aj (List.replicate (N-(k+2)) 0)) 3)) (hKf:K.at bf=some fb) (j:Int) (hj:j=(N:Int)-(k+3)) :
 W M (.loop xR) ⟨⟨[a0,a1,a2,a3,a4,a5,a6,.vs (aj V) V.length c2,.iV V.length,.sl bu 0 N 1 cu,.sl bq 0 (N-(k+2)) 1 cq,.iV j,aC,aD,aE,aF,aG,aH,aI,aJ,aK],lo,K,[]⟩,wr⟩ Q:=by
 refine W.fE (fun t s=>∃U L K iv aC aD aE aF aG aH aI aJ aK lo wr,s=⟨⟨[a0,a1,a2,a3,a4,a5,a6,.vs (aj V) V.length c2,.iV V.length,.sl bu 0 N 1 cu,.sl bq 0 (N-(k+2)) 1 cq,.iV iv,aC,aD,aE,aF,aG,aH,aI,aJ,aK],lo,K,[]⟩,wr⟩ /\
  iv=(t:Int)-1/\t<=N-(k+2)/\U.length=N/\okW dB U/\L.length=N-(k+2)/\okW dB L/\(∀k,k<t->L[k]! = 0)/\WV dB U0=WV dB V*WV dB L+WV dB U/\WV dB (U.drop t)<WV dB V/\ab.at K bu=some (.cells (aj U) 3)/\ab.at K bq=some (.cells (aj L) 3)/\ab.at K bf=some fb) (fun t s ⟨U,L,K,iv,aC,aD,aE,aF,aG,aH,aI,aJ,aK,lo,wr,hs,hiv,ht,hU,oU,hL,oL,hz,hv1,hv2,hKu,hKq,hKf⟩=>?_) (m:=N-(k+2))
  ⟨_,_,_,_,_,_,_,_,_,_,_,_,_,_,_,rfl,by omega,Nat.le_refl _,hU0,oU0,by simp,kf (by decide),fun k _=>kj,by rw[kh,Int.mul_zero,Int.zero_add],hup,hKu,hKq,hKf⟩
 subst hs;cases t with
 | zero=>
  obtain rfl:iv = -1:=by omega
  unfold xR;exact gg4
 | succ i=>
  obtain rfl:iv=(i:Int):=by omega
  obtain⟨P,Y,S,eU,lP,lY,oP,oY,oS,gt,hS0,hXD,hT⟩:=acu (i:=i) (by omega) oU hV oV hv2;obtain⟨t2,ht2⟩:∃t2,t2=U[i+k+2]! := ⟨_,rfl⟩;rw[←ht2]at eU gt hXD hT;have oX:okW dB (Y++[t2]):=jg oY (fun x hx=>by rw[List.mem_singleton.1 hx];exact gt);have lX:(Y++[t2]).length=k+3:=by simp[lY]
  have K3:=ic.of lX hV oX oV hv hT;have gX:∀m,m<k+3->(Y++[t2])[m]! = U[i+m]! := fun m hm=>by
   have:=BE (P:=P) (X:=Y++[t2]) (S:=S) (i:=m) (by omega);rw[←eU,lP]at this;exact this.symm
  rw[gX _ (by omega),gX _ (by omega),gX _ (by omega),←Nat.add_assoc,←Nat.add_assoc]at K3;obtain⟨q,q0,hge,hle,q243⟩:=C.Ml U V bu i k cu c2 3 K _ _ _ hKu hV (by omega) (by omega) K3;rw[hU]at q243;have hT0:0<=WV dB (Y++[t2]):=cn (by decide) oX;have hkl:=eo hKu;have hkq:=eo hKq;have hself:cM K bu 3 P (t2::S) Y=K:=acx hKu (by rw[eU];simp);have vX:WV dB (Y++[t2])=WV dB Y+dB^V.length*t2:=by rw[fF,lY,hV];simp[WV]
  have lYV:Y.length=V.length:=by omega
  have hPN:P.length+V.length<N:=by omega
  have eI:0+((i:Int)).toNat*1=i:=by omega
  have hiP:(i:Int)=(P.length:Int):=by omega
  have fin:∀(q' d:Int) L2 K' aC aD aE aF aG aH aI aJ aK lo wr,(0<=q'/\q'<1000000000)->L2.length=V.length->okW dB L2->d=0->WV dB L2=WV dB (Y++[t2])-q'*WV dB V->WV dB L2<WV dB V->K'=(cM K bu 3 (P++L2) S [d]).put bq (some (.cells (aj (L.set i q')) 3)) ->
   LI (fun s=>∃m',m'<i+1/\∃U L K iv aC aD aE aF aG aH aI aJ aK lo wr,s=⟨⟨[a0,a1,a2,a3,a4,a5,a6,.vs (aj V) V.length c2,.iV V.length,.sl bu 0 N 1 cu,.sl bq 0 (N-(k+2)) 1 cq,.iV iv,aC,aD,aE,aF,aG,aH,aI,aJ,aK],lo,K,[]⟩,wr⟩ /\
    iv=(m':Int)-1/\m'<=N-(k+2)/\U.length=N/\okW dB U/\L.length=N-(k+2)/\okW dB L/\(∀k,k<m'->L[k]! = 0)/\WV dB U0=WV dB V*WV dB L+WV dB U/\WV dB (U.drop m')<WV dB V/\ab.at K bu=some (.cells (aj U) 3)/\ab.at K bq=some (.cells (aj L) 3)/\ab.at K bf=some fb) Q .normal ⟨⟨[a0,a1,a2,a3,a4,a5,a6,.vs (aj V) V.length c2,.iV V.length,.sl bu 0 N 1 cu,.sl bq 0 (N-(k+2)) 1 cq,.iV ((P.length:Int)-1),aC,aD,aE,aF,aG,aH,aI,aJ,aK],lo,K',[]⟩,wr⟩:=fun q' d L2 K' aC aD aE aF aG aH aI aJ aK lo wr hq' hL2 oL2 hd vL2 hlt hK'=>by
   subst hd;subst hK';have hl1:bu<(cM K bu 3 (P++L2) S [0]).length:=by rw[LX];exact hkl
   have hl2:bq<(cM K bu 3 (P++L2) S [0]).length:=by rw[LX];exact hkq
   have e0:WV dB ([0]++S)=0:=by rw[List.singleton_append,WV,hS0];rfl
   have vU':WV dB (P++L2++[0]++S)=WV dB P+dB^i*WV dB L2:=by
    rw[List.append_assoc,fF,e0,Int.mul_zero,Int.add_zero,fF,lP]
   have vU:WV dB U=WV dB P+dB^i*WV dB (Y++[t2]):=by
    rw[eU,fF,hS0,Int.mul_zero,Int.add_zero,fF,lP]
   have lU':(P++L2++[0]++S).length=N:=by
    have h1:=congrArg List.length eU;simp only[List.length_append,List.length_cons,List.length_nil]at h1 ⊢;omega
   refine da ⟨i,Nat.lt_succ_self i,P++L2++[0]++S,L.set i q',_,_,aC,aD,aE,aF,aG,aH,aI,aJ,aK,lo,wr,rfl,by omega,by omega,lU',jg (jg (jg oP oL2) (fun x hx=>by rw[List.mem_singleton.1 hx];exact⟨by decide,by decide⟩)) oS,by rw[List.length_set];exact hL,fO oL hq',fun k hk=>by rw[gA (by omega)];exact hz k (by omega),?_,?_,?_,?_,?_⟩
   . rw[fP (by omega),hz i (by omega),Int.sub_zero,vU',hv1,vU,vL2,Int.mul_add,Int.mul_sub];have e3:WV dB V*(dB^i*q')=dB^i*(q'*WV dB V):=by rw[←Int.mul_assoc,Int.mul_comm (WV dB V),Int.mul_assoc,Int.mul_comm (WV dB V)]
     rw[e3];omega
   . rw[←lP,List.append_assoc,List.append_assoc,List.drop_left,fF,e0,Int.mul_zero,Int.add_zero];exact hlt
   . rw[vt (Ne.symm hbq)];rw[acy hkl]
   . exact dg hl2
   . rw[vt hbf.2,DL hbf.1];exact hKf
  rw[hiP]at q243;have hQK:=hself;unfold xR;rw[hiP];refine gg18 ?_;rw[←hself];refine acr (c2:=c2) (cu:=cu) hkl lN hPN lYV oY oV q q0 _ _ _ _ _ _ _ _ _ _ _ _ _ _ _ _ (fun L1 bo aF aG lo wr hL1 oL1 hbo hv3=>?_);have hmv:=DM (hp:=K) (b:=bu) (e:=3) (P:=P) (S:=S) (X:=L1) (t:=t2);rw[hmv];have eq1:WV dB L1+dB^V.length*(t2-bo)=WV dB (Y++[t2])-q*WV dB V:=by
   rw[hv3,vX,Int.mul_sub];omega
  have lPL:(P++L1).length=P.length+V.length:=by rw[List.length_append,hL1]
  by_cases hd:t2-bo<0
  . refine gg17 ?_;have hmv2:=DM (hp:=K) (b:=bu) (e:=3) (P:=P) (S:=S) (X:=L1) (t:=t2-bo);rw[←hmv2];refine acs (c2:=c2) (cu:=cu) hkl lN hPN hL1 oL1 oV _ _ _ _ _ _ _ _ _ _ _ _ _ _ _ _ _ (fun L2 ca aJ lo wr hL2 oL2 hca hv4=>?_);have hmv3:=DM (hp:=K) (b:=bu) (e:=3) (P:=P) (S:=S) (X:=L2) (t:=t2-bo);rw[hmv3];have lPL2:(P++L2).length=P.length+V.length:=by rw[List.length_append,hL2]
    obtain⟨q1,hz0,vL2,hlt⟩:=acw rfl oL1 hL1 oL2 hL2 oV rfl eq1 hle hT0 hd q0.1 hv4;have hq2:(cM K bu 3 (P++L2) S [t2-bo+ca]).at bq=some (.cells (aj L) 3):=by rw[DL hbq];exact hKq
    have eP:0+((P.length:Int)).toNat*1=i:=by omega
    exact gg12
  . obtain⟨hz0,vL1,hlt⟩:=acv rfl oL1 hL1 oV rfl eq1 hge hd;have hq2:(cM K bu 3 (P++L1) S [t2-bo]).at bq=some (.cells (aj L) 3):=by rw[DL hbq];exact hKq
    have eP:0+((P.length:Int)).toNat*1=i:=by omega
    exact gg12
end Go.Ab.Ch1

/-
  Own work: the reference's integers: quotient and rest.
-/
namespace Go.Ab.Ch1
open Go.Ab.aY
variable {M:ax} {cap c1 c2 cu cq:Option Nat}
theorem xX {h:ab}(l:List Int):rD h (aj l):=uI (fun _=>.cons (.atom rfl) .nil) l
theorem xY {h:ab}{l:List Int}{n:Nat}:cT h (.vs (aj l) n cap) (.vs (aj l) n cap):=cT.mA (xX l)
theorem DN {h:ab}{b n:Nat}{L:List Int}{e:TypeId}(hb:h.at b=some (.cells (aj L) e))(hn:n<=L.length):cT h (.sl b 0 n 1 cap) (.vs (aj (L.take n)) (L.take n).length none):=by
 have hl:(L.take n).length=n:=by rw[List.length_take];omega
 rw[hl];refine .sl (m:=aj (L.take n)) hb ?_ rfl fun i x y hx hy=>?_
 . have:=ke (f:=iC) (esz:=1) (fun _=>rfl) (l:=L) (i:=0) (n:=n) (by omega);simpa using this
 . rw[hx]at hy;cases hy;obtain⟨z,hz⟩:∃z,x = .iV z:=by
    have hm:=List.mem_of_getElem? hx;have:∀l:List Int,∀x∈aj l,∃z,x = .iV z:=by
     intro l;induction l with
     | nil=>intro x hx;cases hx
     | cons a l ih=>
      intro x hx;have:aj (a::l) = .iV a::aj l:=rfl;rw[this]at hx;rcases List.mem_cons.1 hx with rfl|hx
      . exact⟨a,rfl⟩
      . exact ih x hx
    exact this _ _ hm
   subst hz;exact .atom rfl
structure Mm (M:ax):Prop extends Mk M where
 xZ:∀(a b:List Int) c1 c2 h,okW dB a->okW dB b->az a->az b->a.length<1000000000->b.length<1000000000->M.ext 218 [.vs (aj a) a.length c1,.vs (aj b) b.length c2] h=some ⟨.iV (bD (WV dB a-WV dB b)),h,[]⟩
 tg:∀(x y:AV) (a b:List Int) c1 c2 h,cT h x (.vs (aj a) a.length c1)->cT h y (.vs (aj b) b.length c2)->okW dB a->okW dB b->a.length<10000000->b.length<10000000->0<a.length+b.length->∃r,okW dB r/\az r/\WV dB r=WV dB a*WV dB b/\M.ext 197 [x,y] h=some ⟨.vs (aj r) r.length none,h,[]⟩
 DO:∀(x:AV) (a:List Int) c h (d:Int),cT h x (.vs (aj a) a.length c)->okW dB a->a.length<10000000->(0<d/\d<=1000000000)->∃q,okW dB q/\az q/\WV dB q=WV dB a/d/\M.ext 241 [x,.iV d] h=some ⟨.aq [.vs (aj q) q.length none,.iV (WV dB a%d)],h,[]⟩
theorem acA {t f r:Int}(ht:1<=t/\t<1000000000)(hf:(t+1)*f+r=1000000000)(hr:0<=r/\r<t+1):1<=f/\f<=500000000/\500000000<=t*f:=by
 have e:(t+1)*f=t*f+f:=by rw[Int.add_mul,Int.one_mul]
 have f0:1<=f:=by
  rcases Int.lt_or_le f 1 with h|h
  . have:=Int.mul_le_mul_of_nonneg_left (show f<=0 by omega) (show 0<=t+1 by omega);rw[Int.mul_zero]at this;omega
  . exact h
 have h2:2*f<=(t+1)*f:=Int.mul_le_mul_of_nonneg_right (by omega) (by omega);refine⟨f0,by omega,?_⟩;by_cases hbig:500000000<=t
 . have:=Int.mul_le_mul_of_nonneg_left f0 (show 0<=t by omega);omega
 . have f2:2<=f:=by
    rcases Int.lt_or_le f 2 with h|h
    . obtain rfl:f=1:=by omega
      omega
    . exact h
   have h3:=Int.mul_nonneg (show 0<=t-1 by omega) (show 0<=f-2 by omega);have e3:(t-1)*(f-2)=t*f-2*t-f+2:=by grind
   rw[e3]at h3;by_cases r2:2<=r
   . omega
   . by_cases r0:r=0
     . subst r0;omega
     . have r1:r=1:=by omega
       subst r1;by_cases t1:t=1
       . subst t1;omega
       . have h4:3*f<=(t+1)*f:=Int.mul_le_mul_of_nonneg_right (by omega) (by omega);omega
theorem acB {b V:List Int}{k:Nat}{f:Int}(hb:b.length=k+2)(ob:okW dB b)(hf:1<=f)(hth:500000000<=b[k+1]! * f)(htf:(b[k+1]! + 1)*f<=1000000000)(oV:okW dB V)(nV:az V)(vV:WV dB V=WV dB b*f):V.length=k+2/\500000000<=V[k+1]! := by
 have e0:=iU (b:=dB) (l:=b) (n:=k+1) (by omega);have l0:=cn (b:=dB) (by decide) (dm ob (k+1));have l1:=dr (b:=dB) (by decide) (dm ob (k+1));rw[List.length_take,Nat.min_eq_left (by omega)]at l1;have hP:0<dB^(k+1):=Int.pow_pos (by decide);obtain⟨t,ht⟩:∃t,t=b[k+1]! := ⟨_,rfl⟩;rw[←ht]at e0 hth htf;have m1:dB^(k+1)*500000000<=WV dB V:=by
  have h1:=Int.mul_le_mul_of_nonneg_left hth (Int.le_of_lt hP);have h2:=Int.mul_nonneg l0 (show 0<=f by omega);rw[vV,e0,Int.add_mul,Int.mul_assoc];omega
 have m2:WV dB V<dB^(k+1)*1000000000:=by
  have h1:=Int.mul_le_mul_of_nonneg_left htf (Int.le_of_lt hP);have h2:=Int.mul_lt_mul_of_pos_right l1 (show 0<f by omega);rw[Int.add_mul,Int.one_mul,Int.mul_add]at h1;rw[vV,e0,Int.add_mul,Int.mul_assoc];omega
 have hPs:dB^(k+2)=dB^(k+1)*1000000000:=Int.pow_succ _ _;have hlen:V.length<=k+2:=fQ (b:=dB) (by decide) oV nV (by rw[hPs];exact m2);have hlen2:k+2<=V.length:=by
  rcases Nat.lt_or_ge V.length (k+2) with h|h
  . have h1:=dr (b:=dB) (by decide) oV;have h2:=gJ (b:=dB) (by decide) (show V.length<=k+1 by omega);omega
  . exact h
 have hl:V.length=k+2:=by omega
 refine⟨hl,?_⟩;have e1:=iU (b:=dB) (l:=V) (n:=k+1) (by omega);have g1:=dr (b:=dB) (by decide) (dm oV (k+1));rw[List.length_take,Nat.min_eq_left (by omega)]at g1;have:dB^(k+1)*500000000<dB^(k+1)*(V[k+1]! + 1):=by rw[Int.mul_add,Int.mul_one];omega
 have:=Int.lt_of_mul_lt_mul_left this (Int.le_of_lt hP);omega
theorem acC {a b U:List Int}{k:Nat}{f:Int}(hf:0<f)(ha:k+2<=a.length)(oa:okW dB a)(hb:b.length=k+2)(ob:okW dB b)(nb:az b)(hU:U.length=a.length+1)(oU:okW dB U)(vU:WV dB U=WV dB a*f) :
 WV dB (U.drop (a.length+1-(k+2)))<WV dB b*f:=by
 have e1:=lj (b:=dB) (l:=U) (i:=a.length+1-(k+2)) (by omega);have l0:=cn (b:=dB) (by decide) (dm oU (a.length+1-(k+2)));have l1:=dr (b:=dB) (by decide) oa;have hg:=pS (b:=dB) (by decide) ob nb (by omega);rw[hb,show k+2-1=k+1 by omega]at hg;have hP:0<dB^(a.length+1-(k+2)):=Int.pow_pos (by decide);have ep:dB^a.length=dB^(a.length+1-(k+2))*dB^(k+1):=by rw[←Int.pow_add,show a.length+1-(k+2)+(k+1)=a.length by omega]
 have m1:=Int.mul_lt_mul_of_pos_right l1 hf;have m2:=Int.mul_le_mul_of_nonneg_right hg (Int.le_of_lt hf);rw[ep,Int.mul_assoc]at m1;have:dB^(a.length+1-(k+2))*WV dB (U.drop (a.length+1-(k+2)))<dB^(a.length+1-(k+2))*(dB^(k+1)*f):=by omega
 have:=Int.lt_of_mul_lt_mul_left this (Int.le_of_lt hP);omega
theorem acD {a A:List Int}{f:Int}(hf:1<=f/\f<=500000000)(oa:okW dB a)(na:az a)(ha:a≠[])(oA:okW dB A)(nA:az A)(vA:WV dB A=WV dB a*f):A≠[]/\A.length<=a.length+1:=by
 have p:=(iu (b:=dB) (by decide) oa na).2 ha;have hp:0<WV dB a*f:=Int.mul_pos p (by omega);refine⟨fun e=>by rw[e]at vA;simp[WV]at vA;omega,fQ (b:=dB) (by decide) oA nA ?_⟩;have l1:=dr (b:=dB) (by decide) oa;have h1:=Int.mul_lt_mul_of_pos_right l1 (show 0<f by omega);have h2:=Int.mul_le_mul_of_nonneg_left (show f<=1000000000 by omega) (Int.le_of_lt (Int.pow_pos (n:=dB) (m:=a.length) (by decide)));have h3:dB^(a.length+1)=dB^a.length*1000000000:=Int.pow_succ _ _;omega
end Go.Ab.Ch1

/-
  Own work: the reference's integers: quotient and rest: the whole function.
-/
namespace Go.Ab.Ch1
open Go.Ab.aY
variable {M:ax} {cap c1 c2 cu cq:Option Nat}
theorem acE {a A:List Int}(la:a.length<1000000)(hA:A.length<=a.length+1){Q:Ex->ao->Prop}{fb:bw}(a1 a2 a3 a4 a5 a6 a7 a8 aA aB aC aD aE aF aG aH aI aJ aK:AV)
 (hQ:∀o K lo wr,cz iC 1 3 K o (A++List.replicate (a.length+1-A.length) 0) [0]->ab.at K 0=some fb->Q (.exit 0) ⟨⟨[.vs (aj a) a.length c1,a1,a2,a3,a4,a5,a6,a7,a8,o,aA,aB,aC,aD,aE,aF,aG,aH,aI,aJ,aK],lo,K,[]⟩,wr⟩)
 (o:AV) (K:ab) (lo:List (Nat×AV)) (wr:List Nat) (ho:cz iC 1 3 K o A [0]) (hK:K.at 0=some fb) :
 W M (.loop xO) ⟨⟨[.vs (aj a) a.length c1,a1,a2,a3,a4,a5,a6,a7,a8,o,aA,aB,aC,aD,aE,aF,aG,aH,aI,aJ,aK],lo,K,[]⟩,wr⟩ Q:=by
 refine W.fE (fun m st=>∃d o K lo wr,st=⟨⟨[.vs (aj a) a.length c1,a1,a2,a3,a4,a5,a6,a7,a8,o,aA,aB,aC,aD,aE,aF,aG,aH,aI,aJ,aK],lo,K,[]⟩,wr⟩/\A.length+d+m=a.length+1/\cz iC 1 3 K o (A++List.replicate d 0) [0]/\ab.at K 0=some fb)
  (fun m st ⟨d,o,K,lo,wr,hst,hm,ho,hK⟩=>?_) (m:=a.length+1-A.length) ⟨0,o,K,lo,wr,rfl,by omega,by simpa using ho,hK⟩
 subst hst;have hlen:(A++List.replicate d (0:Int)).length=A.length+d:=by simp
 have hsl:∃b cp,o = .ae/\A.length+d=0\/o = .sl b 0 (A++List.replicate d (0:Int)).length 1 cp:=by
  rcases ho with ⟨h1,h2⟩|⟨c,cp,_,h2,_,_⟩
  . exact⟨0,none,.inl ⟨h2,by rw[←hlen,h1];rfl⟩⟩
  . exact⟨c,cp,.inr h2⟩
 have hroom:((A++List.replicate d (0:Int)).length+1)*8<=dD:=by rw[hlen];unfold dD;omega
 have hK1:=eo hK;have next:∀H o' lo w',cz iC 1 3 H o' (A++List.replicate d 0++[0]) [0]->ab.at H 0=some fb->0<m->LI (fun st=>∃m',m'<m/\∃d o K lo wr,st=⟨⟨[.vs (aj a) a.length c1,a1,a2,a3,a4,a5,a6,a7,a8,o,aA,aB,aC,aD,aE,aF,aG,aH,aI,aJ,aK],lo,K,[]⟩,wr⟩/\A.length+d+m'=a.length+1/\cz iC 1 3 K o (A++List.replicate d 0) [0]/\ab.at K 0=some fb) Q .normal ⟨⟨[.vs (aj a) a.length c1,a1,a2,a3,a4,a5,a6,a7,a8,o',aA,aB,aC,aD,aE,aF,aG,aH,aI,aJ,aK],lo,H,[]⟩,w'⟩:=fun H o' lo w' h1 h2 h3=>
  da ⟨m-1,by omega,d+1,o',H,lo,w',rfl,by omega,by rw[List.append_assoc,←List.replicate_succ']at h1;exact h1,h2⟩
 have stop:∀lo wr,m=0->Q (.exit 0) ⟨⟨[.vs (aj a) a.length c1,a1,a2,a3,a4,a5,a6,a7,a8,o,aA,aB,aC,aD,aE,aF,aG,aH,aI,aJ,aK],lo,K,[]⟩,wr⟩:=fun lo wr h=>by
  have:d=a.length+1-A.length:=by omega
  subst this;exact hQ o K lo wr ho hK
 obtain⟨b,cp,⟨rfl,hz⟩|rfl⟩:=hsl
 . unfold xO;exact gg9
 . unfold xO;repeat' first|(refine cz.app (f:=iC) (m:=[(0:Int)]) (S:=[0]) (fun _=>rfl) (fun _=>rfl) (by decide) (ho.grow [_]) (by simp) rfl rfl (Sl.iJ (f:=iC) (esz:=1) (l:=[(0:Int)]) (e:=3) (fun _=>rfl) bW rfl) hroom (fun H w' o' ho' hk hlen=>?_))|apply aap|apply aM|apply aaF|apply aaY|apply acS|apply afA|apply abJ|apply iy|apply cX|apply jS|(apply abz;rfl)|(apply abF;rfl)|(apply ada;rfl;rfl)|(apply ael;rfl;rfl;omega)|(apply acb;rfl;rfl;rfl)|(apply aab;rfl;rfl)|(apply aaZ;rfl;rfl)|(intro _;omega)|intro _
   all_goals try omega
   all_goals first|exact next _ _ _ _ ho' (hk 0 _ (by simp) (bT hK)) (by omega)|exact stop _ _ (by omega)
theorem acF {h:ab}{b m:Nat}{U:List Int}{e:TypeId}(hb:h.at b=some (.cells (aj U) e))(hm:m<=U.length):cT h (bz b m none) (.vs (aj (U.take m)) (U.take m).length none):=by
 rcases Nat.eq_zero_or_pos m with rfl|h0
 . rw[sZ];exact xY (l:=[]) (n:=0)
 . rw[show bz b m none = .sl b 0 m 1 none from if_pos h0];exact DN hb hm
theorem je.mix {d1:Option Nat}{b1:Nat}{L1 R:List Int}{e1:TypeId}{hp:ab}{n1:Nat}(h1:hp.at b1=some (.cells (aj L1) e1))(hn1:n1<=L1.length) :
 je (aV [bz b1 (aN (L1.take n1)) d1,.vs (aj R) R.length none]) (if (aV [bz b1 (aN (L1.take n1)) d1,.vs (aj R) R.length none]).top<=0 then [] else hp) (L1.take (aN (L1.take n1))) R:=by
 obtain⟨x,hx⟩:∃x,x=bz b1 (aN (L1.take n1)) d1:=⟨_,rfl⟩;obtain⟨hh,hhh⟩:∃hh,hh=(if (aV [x,.vs (aj R) R.length none]).top<=0 then [] else hp):=⟨_,rfl⟩;have et:(aV [x,.vs (aj R) R.length none]).top=max x.top (max (bk (aj R)) 0):=rfl;rw[fc]at et;obtain⟨v1,f1,t1,k1⟩:=DH (cap:=d1) h1 hn1 hh (fun h=>by rw[hhh,if_neg];rw[←hx]at h;omega);rw[←hx,←hhh];rw[←hx]at f1;refine⟨.aq [v1,.vs (aj R) R.length none],_,_,.aq rfl (fun i a b ha hb=>?_),?_,?_,.inl rfl,.inl rfl⟩
 . match i with
   | 0=>cases ha;cases hb;exact f1
   | 1=>cases ha;cases hb;exact .same (fc R)
   | i+2=>cases ha
 . show max v1.top (max (bk (aj R)) 0)=0;rw[t1,fc];rfl
 . simp only[bK,cJ,k1,oJ]
theorem je.acG {d1:Option Nat}{b1:Nat}{L1 R:List Int}{e1:TypeId}{hp:ab}{n1:Nat}(h1:hp.at b1=some (.cells (aj L1) e1))(hn1:n1<=L1.length) :
 je (aV [.vs (aj R) R.length none,bz b1 (aN (L1.take n1)) d1]) (if (aV [.vs (aj R) R.length none,bz b1 (aN (L1.take n1)) d1]).top<=0 then [] else hp) R (L1.take (aN (L1.take n1))):=by
 obtain⟨x,hx⟩:∃x,x=bz b1 (aN (L1.take n1)) d1:=⟨_,rfl⟩;obtain⟨hh,hhh⟩:∃hh,hh=(if (aV [.vs (aj R) R.length none,x]).top<=0 then [] else hp):=⟨_,rfl⟩;have et:(aV [.vs (aj R) R.length none,x]).top=max (bk (aj R)) (max x.top 0):=rfl;rw[fc]at et;obtain⟨v1,f1,t1,k1⟩:=DH (cap:=d1) h1 hn1 hh (fun h=>by rw[hhh,if_neg];rw[←hx]at h;omega);rw[←hx,←hhh];rw[←hx]at f1;refine⟨.aq [.vs (aj R) R.length none,v1],_,_,.aq rfl (fun i a b ha hb=>?_),?_,?_,.inl rfl,.inl rfl⟩
 . match i with
   | 0=>cases ha;cases hb;exact .same (fc R)
   | 1=>cases ha;cases hb;exact f1
   | i+2=>cases ha
 . show max (bk (aj R)) (max v1.top 0)=0;rw[t1,fc];rfl
 . simp only[bK,cJ,k1,oJ]
theorem Mn {L:List Int}{n:Nat}:L.take (aN (L.take n))=(L.take n).take (aN (L.take n)):=by
 have h:=hZ (l:=L.take n);rw[List.length_take]at h;rw[List.take_take,Nat.min_eq_left (by omega)]
theorem aht {t:Nat}{x y:aL}{l:List aU}{pe:List AV}{lo:List (Nat×AV)}{hp:ab}{df wr:List Nat}{a d v:Int}{Q:ao->Prop}(hx:(St.mk pe lo hp df).aa x=some (.iV a))(hy:(St.mk pe lo hp df).aa y=some (.iV d))(ha:0<=a/\a<9223372036854775808)(hd:0<d)(hv:a/d=v)
 (h:WO M l ⟨⟨pe,(t,.iV v)::lo,hp,df⟩,wr⟩ Q):WO M (⟨.l t,.bin .quo x y,none⟩::l) ⟨⟨pe,lo,hp,df⟩,wr⟩ Q:=by
 subst hv;exact afX hx hy ha hd h
theorem Mo (C:Mm M)(a b:List Int)(oa:okW dB a)(ob:okW dB b)(na:az a)(nb:az b)(la:a.length<100000)(lb:b.length<100000)(hb:b≠[]):LY M 195 [.vs (aj a) a.length c1,.vs (aj b) b.length c2] (WV dB a) (WV dB b):=by
 have a0:=cn (b:=dB) (by decide) oa;have b0:=(iu (b:=dB) (by decide) ob nb).2 hb;have q218:=fun h=>C.xZ a b c1 c2 h oa ob na nb (by omega) (by omega)
 refine acf (by rw[C.ft];exact LN) (by simp) ?_;unfold DB;simp only[enter];by_cases hlt:WV dB a<WV dB b
 . have e:bD (WV dB a-WV dB b) = -1:=if_pos (by omega);rw[e]at q218;exact gg0
 obtain⟨g,hg⟩:∃g,g=bD (WV dB a-WV dB b):=⟨_,rfl⟩;have g0:0<=g:=by
  rw[hg];unfold bD;split
  . omega
  . split <;> omega
 rw[←hg]at q218;have lb0:b.length≠0:=fun h=>hb (List.eq_nil_of_length_eq_zero h)
 by_cases hl1:b.length=1
 . have t0:=lv nb (by omega);rw[hl1,show 1-1=0 by omega]at t0;have gb:=bY ob (i:=0) (by omega);have vb:WV dB b=b[0]! := by
    have:=iU (b:=dB) (l:=b) (n:=0) (by omega);simpa[WV] using this
   have gb2:0<b[0]! /\ b[0]! < 1000000000:=⟨by omega,gb.2⟩;obtain⟨Q,oQ,nQ,vQ,q241⟩:=C.DO (.vs (aj a) a.length c1) a c1 [] b[0]! xY oa (by omega) ⟨gb2.1,by omega⟩;have r0:=Int.emod_nonneg (WV dB a) (show b[0]! ≠ 0 by omega);have r1:=Int.emod_lt_of_pos (WV dB a) gb2.1;obtain⟨re,hre⟩:∃re,re=WV dB a%b[0]! := ⟨_,rfl⟩;rw[←hre]at q241 r0 r1;have e0:b[(0:Int).toNat]! = b[0]! := rfl;have q2:CT M (ib 242) [.sl 0 0 1 1 (some 1)] [some (.cells (aj [re]) 3)] ⟨bz 0 (aN ([re].take 1)) (some 1),[some (.cells (aj [re]) 3)],[]⟩:=oK (cap:=some 1) C.ft C.dK rfl Nat.zero_lt_one (Nat.le_refl _) (by decide) (fun c hc=>by cases hc;exact Nat.le_refl _);refine gg17 ?_;have hout:=je.acG (d1:=some 1) (b1:=0) (L1:=[re]) (R:=Q) (e1:=3) (hp:=[some (.cells (aj [re]) 3)]) (n1:=1) rfl (Nat.le_refl _);refine⟨.inr rfl,rfl,_,rfl,Q,_,⟨oQ,nQ,by rw[vQ,vb]⟩,?_,hout⟩;rw[List.take_of_length_le (show [re].length<=1 from Nat.le_refl _)];obtain⟨h1,h2,h3⟩:=oI (L:=[re]) (fun x hx=>by rw[List.mem_singleton.1 hx];exact⟨r0,by show _<(1000000000:Int);omega⟩);exact⟨h1,h2,by rw[h3,vb,←hre];simp[WV]⟩
 obtain⟨k,hk⟩:∃k,b.length=k+2:=⟨b.length-2,by omega⟩;have ha:k+2<=a.length:=by
  rcases Nat.lt_or_ge a.length (k+2) with h|h
  . exact absurd (nY (b:=dB) (by decide) oa ob nb (by omega)) hlt
  . exact h
 have ane:a≠[]:=fun e=>by rw[e]at ha;simp at ha
 have t0:=lv nb (by omega);rw[show b.length-1=k+1 by omega]at t0;have gt:=bY ob (i:=k+1) (by omega);obtain⟨t,ht⟩:∃t,t=b[k+1]! := ⟨_,rfl⟩;rw[←ht]at t0 gt;have gt:0<=t/\t<1000000000:=gt;have htb:b[((b.length:Int)-1).toNat]! = t:=by rw[show ((b.length:Int)-1).toNat=k+1 by omega];exact ht.symm
 obtain⟨f,hf⟩:∃f,f=1000000000/(t+1):=⟨_,rfl⟩;have hfe:=Int.mul_ediv_add_emod 1000000000 (t+1);rw[←hf]at hfe;obtain⟨f1,f2,f3⟩:=acA (t:=t) (f:=f) ⟨by omega,gt.2⟩ hfe ⟨Int.emod_nonneg _ (by omega),Int.emod_lt_of_pos _ (by omega)⟩;have f4:(t+1)*f<=1000000000:=by
  have:=Int.emod_nonneg 1000000000 (show t+1≠0 by omega);omega
 have of:okW dB [f]:=fun x hx=>by rw[List.mem_singleton.1 hx];exact⟨by omega,by show _<(1000000000:Int);omega⟩
 have vf:WV dB [f]=f:=by simp[WV]
 obtain⟨V,oV,nV,vV,q197b⟩:=C.tg (.vs (aj b) b.length c2) (.sl 0 0 1 1 (some 1)) b [f] c2 none [some (.cells (aj [f]) 3)] xY (DN (L:=[f]) (n:=1) (e:=3) rfl (Nat.le_refl _)) ob of (by omega) (by simp) (by omega);rw[vf]at vV;rw[ht]at f3 f4;obtain⟨lV,hvt⟩:=acB hk ob f1 f3 f4 oV nV vV;obtain⟨A,oA,nA,vA,q197a⟩:=C.tg (.vs (aj a) a.length c1) (.sl 0 0 1 1 (some 1)) a [f] c1 none [some (.cells (aj [f]) 3),some (.cells (aj []) 3)] xY (DN (L:=[f]) (n:=1) (e:=3) rfl (Nat.le_refl _)) oa of (by omega) (by simp) (by omega);rw[vf]at vA;obtain⟨Ane,lA⟩:=acD ⟨f1,f2⟩ oa na ane oA nA vA;rw[←ht]at f3 f4;have hroom:(([]:List Int).length+A.length)*8<=dD:=by rw[List.length_nil];unfold dD;omega
 have hfq:1000000000/(b[((b.length:Int)-1).toNat]! + 1)=f:=by rw[htb,hf]
 repeat' first|(apply aht (a:=1000000000) (v:=f);rfl;rfl;decide;(rw[htb];omega);exact hfq)|(refine cz.app (f:=iC) (m:=A) (acc:=[]) (S:=[0]) (hp:=[some (.cells (aj [f]) 3),some (.cells (aj []) 3)]) (fun _=>rfl) (fun _=>rfl) (by decide) (.inr ⟨1,some 0,by simp,rfl,rfl,.inr ⟨rfl,rfl⟩⟩) (by simp) rfl rfl (.inr (.inl ⟨_,rfl⟩)) hroom (fun H w' o' ho' hk' hlen=>?_))|apply aap|apply aM|apply aaF|apply aaY|apply acS|apply abJ|(apply abF;rfl)|(apply ada;rfl;rfl)|(apply adE;rfl;rfl)|(apply ael;rfl;rfl;omega)|(apply aes;rfl;rfl;omega)|(apply abD;rfl;rfl;first|exact q218 _|exact q197b|exact q197a)|(apply aeX;rfl;rfl;omega)|(apply afu;rfl;exact fun _=>rfl;(first|omega|(simp only[List.length_set];omega)|(simp;omega));decide;rfl;case ia=>infer_instance)|(apply acb;rfl;rfl;rfl)|(apply aab;rfl;rfl)|(apply aaZ;rfl;rfl)|(intro _;omega)|intro _
 all_goals try omega
 rw[List.nil_append]at ho';refine acE (c1:=c1) (fb:=.cells (aj [f]) 3) (by omega) lA _ _ _ _ _ _ _ _ _ _ _ _ _ _ _ _ _ _ _ (fun o K lo wr hoK hK0=>?_) _ _ _ _ ho' (hk' 0 _ (by simp) rfl);obtain⟨U0,hU0⟩:∃U0,U0=A++List.replicate (a.length+1-A.length) 0:=⟨_,rfl⟩;rw[←hU0]at hoK;have lU0:U0.length=a.length+1:=by rw[hU0];simp;omega
 have oU0:okW dB U0:=by rw[hU0];exact jg oA (kf (by decide))
 have vU0:WV dB U0=WV dB a*f:=by rw[hU0,fF,kh,Int.mul_zero,Int.add_zero,vA]
 rcases hoK with ⟨h1,_⟩|⟨bu,cp,hb0,rfl,hbu,hcap⟩
 . rw[h1]at lU0;simp at lU0
 obtain rfl:cp=none:=hcap.resolve_right fun h=>by rw[h.1]at lU0;simp at lU0
 have hb0:bu≠0:=fun e=>hb0 (by simp[e])
 have hbl:=eo hbu;have hK0l:=eo hK0;rw[lU0];refine gg14 ?_;rw[show (((a.length+1:Nat):Int)-(V.length:Int)).toNat=a.length+1-(k+2) by omega];have hup:=acC (f:=f) (by omega) ha oa hk ob nb lU0 oU0 vU0;rw[←vV]at hup;refine acz (c2:=none) (cu:=none) (cq:=some (a.length+1-(k+2))) (k:=k) (N:=a.length+1) (bu:=bu) (bq:=K.length) (bf:=0) (V:=V) (U0:=U0) (fb:=.cells (aj [f]) 3) C.toMk (by omega) ⟨hb0,by omega⟩ (by omega) (by omega) lV oV hvt lU0 oU0 hup _ _ _ _ _ _ _ (fun U L K2 aC aD aE aF aG aH aI aJ aK lo wr lU oU lL oL hv hlU hK2u hK2q hK2f=>?_) _ _ _ _ _ _ _ _ _ _ _ _ (bT hbu) bW (bT hK0) _ (by omega);have lt:=dr (b:=dB) (by decide) oV;have hU0n:=cn (b:=dB) (by decide) oU;rw[vU0,vV]at hv;rw[vV]at hlU;obtain⟨d1,d2⟩:=Ik (p:=f) (by omega) hv hU0n hlU;have q1:CT M (ib 242) [.sl bu 0 V.length 1 none] K2 ⟨bz bu (aN (U.take V.length)) none,K2,[]⟩:=oK (cap:=none) C.ft C.dK hK2u (by omega) (by omega) (by omega) (fun _ h=>by cases h);have q2:CT M (ib 242) [.sl K.length 0 (a.length+1-(k+2)) 1 (some (a.length+1-(k+2)))] K2 ⟨bz K.length (aN (L.take (a.length+1-(k+2)))) (some (a.length+1-(k+2))),K2,[]⟩:=oK (cap:=some (a.length+1-(k+2))) C.ft C.dK hK2q (by omega) (by omega) (by omega) (fun c hc=>by cases hc;exact Nat.le_refl _);have hm:=hZ (l:=U.take V.length);rw[List.length_take]at hm;have hfrc:=acF hK2u (m:=aN (U.take V.length)) (by omega);have vT:WV dB (U.take (aN (U.take V.length)))=WV dB U:=by
  rw[Mn,vc];have e1:=lj (b:=dB) (l:=U) (i:=V.length) (by omega);have l0:=cn (b:=dB) (by decide) (dm oU V.length);have l1:=cn (b:=dB) (by decide) (iR oU V.length);have hP:0<dB^V.length:=Int.pow_pos (by decide);rcases Int.lt_or_le 0 (WV dB (U.drop V.length)) with h|h
  . have:=Int.mul_le_mul_of_nonneg_left (show 1<=WV dB (U.drop V.length) by omega) (Int.le_of_lt hP);rw[←vV]at hlU;omega
  . have z:WV dB (U.drop V.length)=0:=by omega
    rw[z,Int.mul_zero,Int.add_zero]at e1;exact e1.symm
 obtain⟨R,oR,nR,vR,q241⟩:=C.DO (bz bu (aN (U.take V.length)) none) (U.take (aN (U.take V.length))) none K2 f hfrc (dm oU _) (by rw[List.length_take];omega) ⟨by omega,by omega⟩;have vR:WV dB R=WV dB a%WV dB b:=by rw[vR,vT,d2,Int.mul_ediv_cancel_left _ (by omega)]
 refine gg18 ?_;have hout:=je.mix (d1:=some (a.length+1-(k+2))) (b1:=K.length) (L1:=L) (R:=R) (e1:=3) (hp:=K2) (n1:=a.length+1-(k+2)) hK2q (by omega);refine⟨.inr rfl,rfl,_,rfl,_,_,?_,⟨oR,nR,vR⟩,hout⟩;rw[Mn,List.take_of_length_le (show L.length<=a.length+1-(k+2) by omega)];obtain⟨h1,h2,h3⟩:=oI oL;exact⟨h1,h2,by rw[h3,d1]⟩
end Go.Ab.Ch1

/-
  Own work: the reference's integers: the greatest common divisor; the error of a number.
-/
namespace Go.Ab.Ch1
open Go.Ab.aY
variable {M:ax} {cap c1 c2:Option Nat}
structure Mp (M:ax):Prop where
 ft:M.FT=FT
 ja:∀(a b:List Int),okW dB a->okW dB b->az a->az b->a.length<100000->b.length<100000->b≠[]->∃qv q rv r,cm qv q/\cm rv r/\okW dB r/\az r/\WV dB q=WV dB a/WV dB b/\WV dB r=WV dB a%WV dB b/\∀h,M.ext 195 [.vs (aj a) a.length none,.vs (aj b) b.length none] h=some ⟨.aq [qv,rv],h,[]⟩
theorem acI (C:Mp M)(a b:List Int)(oa:okW dB a)(ob:okW dB b)(na:az a)(nb:az b)(la:a.length<100000)(lb:b.length<100000) :
 ∃g,okW dB g/\az g/\WV dB g=(Int.gcd (WV dB a) (WV dB b):Nat)/\cK M 155 [.vs (aj a) a.length none,.vs (aj b) b.length none] (.vs (aj g) g.length none):=by
 obtain⟨v,hh,⟨g,og,ng,vg,ho⟩,hr⟩:=fZ (M:=M) (f:=155) (ars:=[.vs (aj a) a.length none,.vs (aj b) b.length none]) (P:=fun v hh=>∃g,okW dB g/\az g/\WV dB g=(Int.gcd (WV dB a) (WV dB b):Nat)/\fa v hh (.vs (aj g) g.length none)) (by rw[C.ft];exact LM) (by simp) (by
  unfold DA;simp only[enter];refine gg3 ?_;refine W.fE (fun m st=>∃A B y a3 lo wr,st=⟨⟨[.vs (aj A) A.length none,y,.ae,a3],lo,[],[]⟩,wr⟩/\cm y B/\m=(WV dB B).toNat/\okW dB A/\az A/\A.length<100000/\okW dB B/\az B/\B.length<100000/\Int.gcd (WV dB A) (WV dB B)=Int.gcd (WV dB a) (WV dB b))
   (fun m st ⟨A,B,y,a3,lo,wr,hst,hy,hm,oA,nA,lA,oB,nB,lB,hg⟩=>?_) (m:=(WV dB b).toNat) ⟨a,b,_,_,_,_,rfl,.inl rfl,rfl,oa,na,la,ob,nb,lb,rfl⟩
  subst hst;by_cases hB:B=[]
  . subst hB;have hl0:([]:List Int).length=0:=rfl;have fin:fa (aV [.vs (aj A) A.length none]) (if (aV [AV.vs (aj A) A.length none]).top<=0 then [] else []) (.vs (aj A) A.length none):=.same (fc A) (by rw[aV,bK,oJ]);have hv:WV dB A=(Int.gcd (WV dB a) (WV dB b):Nat):=by
     rw[←hg];have:=cn (b:=dB) (by decide) oA;show WV dB A=(Int.gcd (WV dB A) 0:Nat);rw[Int.gcd_zero_right];omega
    rcases hy with rfl|⟨rfl,_⟩;all_goals
    . unfold sX;exact gg9
  . obtain rfl:y = .vs (aj B) B.length none:=hy.resolve_right fun h=>hB h.2
    have hBl:0<B.length:=List.length_pos_iff.2 hB;have hBp:=(iu (b:=dB) (by decide) oB nB).2 hB;have hA0:=cn (b:=dB) (by decide) oA;obtain⟨qv,q,rv,r,hq,hr,or_,nr,vq,vr,q195⟩:=C.ja A B oA oB nA nB lA lB hB;have r1:=Int.emod_lt_of_pos (WV dB A) hBp;have r0:=Int.emod_nonneg (WV dB A) (show WV dB B≠0 by omega);have lr:r.length<=B.length:=fQ (b:=dB) (by decide) or_ nr (Int.lt_trans (by rw[vr];exact r1) (dr (by decide) oB));have hg2:Int.gcd (WV dB B) (WV dB r)=Int.gcd (WV dB a) (WV dB b):=by
     rw[←hg,vr,BW]
    unfold sX;repeat' first|apply aap|apply aM|apply aaF|apply aaY|apply acS|apply abJ|apply cX|(apply abz;rfl)|(apply adU;rfl;rfl)|(apply abD;rfl;rfl;first|exact q195 _)|(apply aab;rfl;rfl)|(apply aaZ;rfl;rfl)|(intro _;omega)|intro _
    all_goals try omega
    all_goals exact da ⟨(WV dB r).toNat,by rw[vr];omega,B,r,rv,_,_,_,rfl,hr,rfl,oB,nB,lB,or_,nr,by omega,hg2⟩)
 exact⟨g,og,ng,vg,v,hh,ho,hr⟩
theorem Mq {g:List Int}(og:okW dB g)(ng:az g):WV dB g=1↔g=[1]:=by
 constructor
 . intro h;have h1:=fQ (b:=dB) (by decide) og ng (n:=1) (by rw[h];decide);match g,h1 with
   | [],_=>simp[WV]at h
   | [x],_=>simp[WV]at h;rw[h]
 . rintro rfl;rfl
def t62:al:=
 .seq (
       zR [zm 37 3,
          zm 38 2,
          zL 39 38,
          zb 40 .lss 37 39,
          zn 41 40,
          zg (zm 42 2) 41 true,
          zg (zm 43 3) 41 true,
          zg (zc 44 .add 43 1) 41 true,
          ⟨(.l 45),.slice .str 1 (.l 42) (some (.l 44)) none none,some ((.l 41),true)⟩,
          zg (z1 46 154 45) 41 true,
          zg (zu 47 46) 41 true,
          zg (zn 48 47) 41 true,
          zg (zm 49 2) 48 false,
          zg (zm 50 3) 48 false,
          zg (zc 51 .add 50 1) 48 false,
          ⟨(.l 52),.slice .str 1 (.l 49) (some (.l 51)) none none,some ((.l 48),false)⟩,
          ⟨(.l 53),.bin .eql (.l 52) (.c (.str [48])),some ((.l 48),false)⟩,
          zg (zP 54 48 53) 41 true,
          zg (zn 55 54) 41 true,
          zg (zm 56 2) 55 false,
          zg (zm 57 3) 55 false,
          zg (zc 58 .add 57 1) 55 false,
          ⟨(.l 59),.slice .str 1 (.l 56) (some (.l 58)) none none,some ((.l 55),false)⟩,
          ⟨(.l 60),.bin .eql (.l 59) (.c (.str [49])),some ((.l 55),false)⟩,
          zg (zP 61 55 60) 41 true,
          zp 62 41 61]
        (
         .cond (.l 62)
         (
          zR [zi 1 1]
          (.ret))
         (.skip)))
       (
        .seq (zR [zm 63 3,
           zc 64 .gtr 63 600,
           zn 65 64,
           zg (zm 66 2) 65 false,
           zg (zL 67 66) 65 false,
           zg (zm 68 3) 65 false,
           zg (zb 69 .sub 67 68) 65 false,
           zg (zc 70 .sub 69 1) 65 false,
           zg (zc 71 .gtr 70 600) 65 false,
           zP 72 65 71]
         (
          .cond (.l 72)
          (
           zR [zi 1 4]
           (.ret))
          (.skip)))
        (
         .seq (zR [zm 73 3,
            zm 74 2,
            zL 75 74,
            zb 76 .lss 73 75]
          (
           .cond (.l 76)
           (
            zR [zm 78 2,
              z1 79 135 78,
              zn 77 79,
              ze 80 0 77,
              ze 81 1 77,
              ⟨(.p 4),.alloc 162 [.bool false,.ae],none⟩,
              ⟨(.p 5),.alloc 162 [.bool false,.ae],none⟩,
              zs 2 4 80,
              zs 2 5 81]
            (
             zR [zf 82 1 4,
               zd 83 1 82,
               zf 84 1 5,
               zd 85 1 84,
               z2 86 155 83 85,
               zw 6 86]
             (
              zR [zm 87 6,
                zl 88 87,
                zc 89 .neq 88 1,
                zn 90 89,
                zg (zm 91 6) 90 false,
                ⟨(.l 92),.cP none 1 (.l 91) (kI 0),some ((.l 90),false)⟩,
                zg (zd 93 1 92) 90 false,
                zg (zc 94 .neq 93 1) 90 false,
                zP 95 90 94]
              (
               .cond (.l 95)
               (
                zR [zi 1 1]
                (.ret))
               (.skip)))))
           (.skip)))
         (
          zR [zi 1 0]
          (.ret))))
structure DP (M:ax):Prop where
 ft:M.FT=FT
 Mr:∀(s:an) h,s.length<1000000->M.ext 153 [.str s] h=some ⟨.iV (cw s),h,[]⟩
 DQ:∀(s:an) h,s.length<1000000->M.ext 154 [.str s] h=some ⟨.bool (dF s),h,[]⟩
 Ms:∀(s:an),s.length<1000000->js s=true->(bE 47 s).1.all bF=true->((bE 47 s).2.getD []).all bF=true->∃v1 v2,iZ v1 (ay 0 (bE 47 s).1:Nat)/\iZ v2 (ay 0 ((bE 47 s).2.getD []):Nat)/\∀h,M.ext 135 [.str s] h=some ⟨.aq [v1,v2],h,[]⟩
 qA:∀(a b:List Int),okW dB a->okW dB b->az a->az b->a.length<100000->b.length<100000->∃g,okW dB g/\az g/\WV dB g=(Int.gcd (WV dB a) (WV dB b):Nat)/\∀h,M.ext 155 [.vs (aj a) a.length none,.vs (aj b) b.length none] h=some ⟨.vs (aj g) g.length none,h,[]⟩
theorem iZ.pos {v:AV}{n:Nat}(h:iZ v n):∃neg l,v = .agg [.bool neg,.vs (aj l) l.length none]/\okW dB l/\az l/\WV dB l=n:=by
 obtain⟨neg,l,rfl,ok,nr,hz,hn⟩:=h;refine⟨neg,l,rfl,ok,nr,?_⟩;cases neg with
 | false=>exact hz.symm
 | true=>
  have:=(iu (b:=dB) (by decide) ok nr).2 (hn rfl);simp at hz;omega
theorem acJ (C:DP M)(s u top bot:an)(B:Bool)(lu:u.length<1000000)(htop:(bE 47 u).1=top)(hbot:(bE 47 u).2.getD []=bot)(hB:js u=B)(dt:top.all bF=true)(a4 a5 a6:AV)(lo:List (Nat×AV))(wr:List Nat) :
 W M t62 ⟨⟨[.str s,.iV 0,.str u,.iV top.length,a4,a5,a6],lo,[],[]⟩,wr⟩ (Dg [.var (.p 1)] (if B=true/\(dF bot && decide (bot≠[48]) && decide (bot≠[49]))=false then 1 else if 600<top.length\/600<bot.length then 4 else if B=true/\fI (ay 0 top) (ay 0 bot)=true then 1 else 0)):=by
 have hs:cw u=top.length:=by rw[cw,htop]
 cases B with
 | false=>
  rw[if_neg (by simp)];have hn:(bE 47 u).2=none:=by unfold js at hB;cases h:(bE 47 u).2 with
    | none=>rfl
    | some y=>rw[h]at hB;cases hB
  have hul:u.length=top.length:=by rw[←htop,(mP hn).1]
  have hb0:bot=[]:=by rw[←hbot,hn];rfl
  subst hb0;have hl0:([]:an).length=0:=rfl;by_cases h6:600<top.length\/600<([]:an).length
  . rw[if_pos h6];unfold t62;exact gg11
  . rw[if_neg h6,if_neg (by simp)];unfold t62;exact gg11
 | true=>
  obtain⟨e1,e2,hk⟩:=Me hB;rw[hs,hbot]at e2;have hul:u.length=top.length+1+bot.length:=by
   unfold js at hB;obtain⟨y,hy⟩:=Option.isSome_iff_exists.1 hB;have:=sG hy;rw[hy]at hbot;simp at hbot;rw[←htop,←hbot];exact this
  have e2':u.drop ((top.length:Int)+1).toNat=bot:=by rw[show ((top.length:Int)+1).toNat=top.length+1 by omega];exact e2
  have q154:=fun h=>C.DQ bot h (by omega)
  cases hC:dF bot with
  | false=>
   rw[if_pos ⟨rfl,rfl⟩];rw[hC]at q154;unfold t62;exact gg2
  | true=>
   rw[hC]at q154;by_cases h48:bot=[48]
   . rw[if_pos ⟨rfl,by rw[decide_eq_false (show ¬bot≠[48] from fun h=>h h48)];rfl⟩];unfold t62;repeat' first|(apply afh (s:=u) (r:=bot);rfl;rfl;omega;exact e2')|(apply aeK;rfl;rfl;all_goals first|(intro h;exact absurd h48 h)|intro _)|apply aap|apply aM|apply aaF|apply aaY|apply abu|apply bZ|(apply abz;rfl)|(apply acY;rfl)|(apply aeP;rfl)|(apply afz;rfl)|(apply ada;rfl;rfl)|(apply acR;rfl;rfl)|(apply adM;rfl;rfl)|(apply ael;rfl;rfl;omega)|(apply abD;rfl;rfl;first|exact q154 _)|(apply aab;rfl;rfl)|(apply aaZ;rfl;rfl)|(intro _;omega)|intro _
     all_goals try omega
     all_goals exact jz (.inr rfl) rfl rfl rfl rfl
   . by_cases h49:bot=[49]
     . rw[if_pos ⟨rfl,by rw[decide_eq_true (show bot≠[48] from h48),decide_eq_false (show ¬bot≠[49] from fun h=>h h49)];rfl⟩];unfold t62;exact gg5
     . rw[if_neg (by rw[decide_eq_true (show bot≠[48] from h48),decide_eq_true (show bot≠[49] from h49)];simp)];by_cases h6:600<top.length\/600<bot.length
       . rw[if_pos h6];unfold t62;repeat' first|(apply afh (s:=u) (r:=bot);rfl;rfl;omega;exact e2')|(apply aeK;rfl;rfl;all_goals first|(intro h;exact absurd h h48)|(intro h;exact absurd h h49)|intro _)|apply aap|apply aM|apply aaF|apply aaY|apply abu|apply abJ|apply bZ|(apply abz;rfl)|(apply abF;rfl)|(apply acY;rfl)|(apply aeP;rfl)|(apply afz;rfl)|(apply ada;rfl;rfl)|(apply adU;rfl;rfl)|(apply acR;rfl;rfl)|(apply adM;rfl;rfl)|(apply ael;rfl;rfl;omega)|(apply aes;rfl;rfl;omega)|(apply abD;rfl;rfl;first|exact q154 _)|(apply aab;rfl;rfl)|(apply aaZ;rfl;rfl)|(intro _;omega)|intro _
         all_goals try omega
         all_goals exact jz (.inr rfl) rfl rfl rfl rfl
       . rw[if_neg h6];have dbt:=(sM hC).2;obtain⟨v1,v2,k1,k2,q135⟩:=C.Ms u lu hB (by rw[htop];exact dt) (by rw[hbot];exact dbt);rw[htop]at k1;rw[hbot]at k2;obtain⟨n1,l1,rfl,ok1,nr1,vl1⟩:=k1.pos;obtain⟨n2,l2,rfl,ok2,nr2,vl2⟩:=k2.pos;have len1:∀(t:an) (l:List Int),t.all bF=true->okW dB l->az l->WV dB l=(ay 0 t:Nat)->t.length<=600->l.length<100000:=fun t l ht ok nr hv hl6=>by
          have h1:=ou t ht;have h2:l.length<=t.length:=fQ (b:=dB) (by decide) ok nr (by
           rw[hv];have h3:(ay 0 t:Int)<(10:Int)^t.length:=by exact_mod_cast h1
           have h4:∀n:Nat,(10:Int)^n<=dB^n:=by
            intro n;induction n with
            | zero=>decide
            | succ n ih=>
             rw[Int.pow_succ,Int.pow_succ];exact Int.mul_le_mul ih (by decide) (by decide) (Int.pow_nonneg (by decide))
           have h5:=h4 t.length;omega)
          omega
         obtain⟨g,og,ng,vg,q155⟩:=C.qA l1 l2 ok1 ok2 nr1 nr2 (len1 top l1 dt ok1 nr1 vl1 (by omega)) (len1 bot l2 dbt ok2 nr2 vl2 (by omega));rw[vl1,vl2]at vg;have hgn:(Int.gcd (ay 0 top:Nat) (ay 0 bot:Nat))=Nat.gcd (ay 0 top) (ay 0 bot):=rfl;rw[hgn]at vg;have h1d:=Mq og ng;by_cases h1:g=[1]
         . have hc:fI (ay 0 top) (ay 0 bot)=false:=by
            have:=h1d.2 h1;rw[vg]at this;rw[fI,show Nat.gcd (ay 0 top) (ay 0 bot)=1 by omega];rfl
           rw[if_neg (by rw[hc];simp)];subst h1;have hl1:([1]:List Int).length=1:=rfl;unfold t62;repeat' first|(apply afh (s:=u) (r:=bot);rfl;rfl;omega;exact e2')|(apply aeK;rfl;rfl;all_goals first|(intro h;exact absurd h h48)|(intro h;exact absurd h h49)|intro _)|(apply afD (L:=[1]) (m:=0) (v:=1);rfl;rfl;exact Nat.zero_lt_one;rfl)|apply aap|apply aM|apply aaF|apply aaY|apply abu|apply abJ|(apply abz;rfl)|(apply abF;rfl)|(apply acY;rfl)|(apply aeP;rfl)|(apply ada;rfl;rfl)|(apply adU;rfl;rfl)|(apply aef;rfl;rfl)|(apply acR;rfl;rfl)|(apply adM;rfl;rfl)|(apply ael;rfl;rfl;omega)|(apply aes;rfl;rfl;omega)|(apply abD;rfl;rfl;first|exact q154 _|exact q135 _|exact q155 _)|(apply aeX;rfl;rfl;omega)|(apply acb;rfl;rfl;rfl)|(apply acK;rfl;rfl;rfl)|(apply afx;rfl;rfl;rfl)|(apply aab;rfl;rfl)|(apply aaZ;rfl;rfl)|(intro _;omega)|intro _
           all_goals try omega
           all_goals exact jz (.inr rfl) rfl rfl rfl rfl
         . have hc:fI (ay 0 top) (ay 0 bot)=true:=by
            have:Nat.gcd (ay 0 top) (ay 0 bot)≠1:=fun e=>h1 (h1d.1 (by rw[vg,e];rfl))
            rw[fI];simp[this]
           rw[if_pos ⟨rfl,hc⟩];by_cases hl1:g.length=1
           . obtain⟨x,rfl⟩:∃x,g=[x]:=by
              match g,hl1 with
              | [x],_=>exact⟨x,rfl⟩
             have hx:x≠1:=fun e=>h1 (by rw[e])
             unfold t62;exact gg2
           . unfold t62;exact gg2
theorem w62 (C:DP M)(s:an)(hl:s.length<1000000):aT M 62 [.str s] [] ⟨.iV (gC s),[],[]⟩:=by
 have hcl:=sH 45 s;have q153:=fun h=>C.Mr (bJ 45 s) h (by omega)
 have hsl:=xV (bJ 45 s);have etk:(bJ 45 s).take ((cw (bJ 45 s):Nat):Int).toNat=cL s:=by
  show (bJ 45 s).take (bE 47 (bJ 45 s)).1.length=(bE 47 (bJ 45 s)).1;cases h:(bE 47 (bJ 45 s)).2 with
  | none=>rw[(mP h).1,List.take_length]
  | some y=>exact CX h
 have htl:(cL s).length<=s.length:=Nat.le_trans (sN 47 _) hcl;have q154:=fun h=>C.DQ (cL s) h (by omega)
 have hsT:cw (bJ 45 s)=(cL s).length:=rfl;have tl:=fun dt=>acJ C s (bJ 45 s) (cL s) (dy s) (gO s) (by omega) rfl rfl rfl dt
 rw[hsT]at q153 etk hsl;have hchk:gC s=if iY s=false then 1 else if 600<(cL s).length\/600<(dy s).length then 4 else if gO s=true/\fI (ay 0 (cL s)) (ay 0 (dy s))=true then 1 else 0:=rfl
 have hform:iY s=(dF (cL s) && !(preB 45 s && decide (cL s=[48])) && (!gO s || (dF (dy s) && decide (dy s≠[48]) && decide (dy s≠[49])))):=rfl;have dA:=fun h=>(sM (s:=cL s) h)
 have hhd:preB 45 s=true->s[0]! = 45:=fun h=>by
  have h:=of_decide_eq_true h;cases s with
  | nil=>simp at h
  | cons c t=>simp at h;exact h
 have hnhd:preB 45 s=false->s≠[]->s[0]! ≠ 45:=fun h h0 e=>by
  have h:=of_decide_eq_false h;cases s with
  | nil=>exact h0 rfl
  | cons c t=>exact h (congrArg some e)
 have hne:cL s≠[]->s≠[]:=fun h e=>h (by rw[e];rfl)
 have hpc:=fun h=>wU (b:=45) (s:=s) h
 have hpn:=fun h=>ky (b:=45) (s:=s) h
 rw[hchk];clear hchk;generalize cL s=top at *
 generalize dy s=bot at *
 generalize gO s=B at *
 generalize bJ 45 s=u at *
 have ei:s[(0:Int).toNat]! = s[0]! := rfl;refine bH (by rw[C.ft];exact abK) (by simp) ?_;unfold LF;simp only[enter];cases hP:preB 45 s with
 | true=>
  rw[hP]at hform;have h45:=hhd hP;obtain⟨hc1,hc2⟩:=hpc hP;have hc1:s.drop (1:Int).toNat=u:=hc1;have e45:((s[(0:Int).toNat]!).toNat:Int)=45:=by rw[ei,h45];rfl
  cases hA:dF top with
  | false=>
   rw[hA]at q154 hform;simp only[Bool.false_and]at hform;rw[hform,if_pos rfl];exact gg5
  | true=>
   rw[hA]at q154 hform;simp only[Bool.true_and]at hform;obtain⟨d1,d2⟩:=dA hA;have tl:=tl d2;by_cases hz:top=[48]
   . rw[decide_eq_true hz]at hform;simp only[Bool.not_true,Bool.false_and]at hform;rw[hform,if_pos rfl];repeat' first|(apply afh (s:=s) (r:=u);rfl;rfl;omega;exact hc1)|(apply afC (s:=u) (r:=top);rfl;rfl;omega;exact etk)|(apply aeK;rfl;rfl;all_goals first|(intro h;exact absurd hz h)|intro _)|apply aap|apply aM|apply aaF|apply aaY|apply abu|apply bZ|(apply abz;rfl)|(apply acY;rfl)|(apply aeP;rfl)|(apply adU;rfl;rfl)|(apply adE;rfl;rfl)|(apply acR;rfl;rfl)|(apply adM;rfl;rfl)|(apply abD;rfl;rfl;first|exact q153 _|exact q154 _)|(apply afb;rfl;rfl;omega)|(apply aab;rfl;rfl)|(apply aaZ;rfl;rfl)|(intro _;omega)|intro _
     all_goals try omega
     all_goals exact⟨.inr rfl,rfl,_,rfl,rfl,rfl⟩
   . rw[decide_eq_false hz]at hform;simp only[Bool.not_false,Bool.true_and]at hform;have hres:(if B=true/\(dF bot && decide (bot≠[48]) && decide (bot≠[49]))=false then 1 else if 600<top.length\/600<bot.length then 4 else if B=true/\fI (ay 0 top) (ay 0 bot)=true then (1:Int) else 0)=(if iY s=false then 1 else if 600<top.length\/600<bot.length then 4 else if B=true/\fI (ay 0 top) (ay 0 bot)=true then 1 else 0):=by
      rw[hform];cases B with
      | false=>simp
      | true=>simp
     rw[hres]at tl;repeat' first|(exact tl _ _ _ _ _)|(apply afh (s:=s) (r:=u);rfl;rfl;omega;exact hc1)|(apply afC (s:=u) (r:=top);rfl;rfl;omega;exact etk)|(apply aeK;rfl;rfl;all_goals first|(intro h;exact absurd h hz)|intro _)|apply aap|apply aM|apply aaF|apply aaY|apply abJ|(apply abz;rfl)|(apply abF;rfl)|(apply acY;rfl)|(apply aeP;rfl)|(apply adU;rfl;rfl)|(apply adE;rfl;rfl)|(apply acR;rfl;rfl)|(apply adM;rfl;rfl)|(apply abD;rfl;rfl;first|exact q153 _|exact q154 _)|(apply afb;rfl;rfl;omega)|(apply aab;rfl;rfl)|(apply aaZ;rfl;rfl)|(intro _;omega)|intro _
     all_goals try omega
 | false=>
  rw[hP]at hform;obtain rfl:u=s:=hpn hP;simp only[Bool.false_and,Bool.not_false,Bool.and_true]at hform;by_cases h0:u=[]
  . have hA:dF top=false:=by
     cases h:dF top with
     | false=>rfl
     | true=>exact absurd h0 (hne (dA h).1)
    rw[hA]at q154 hform;simp only[Bool.false_and]at hform;rw[hform,if_pos rfl];have hu0:u.length=0:=by rw[h0];rfl
    exact gg5
  . have hpos:0<u.length:=List.length_pos_iff.2 h0;have h45:=hnhd hP h0;have e45:((u[(0:Int).toNat]!).toNat:Int)≠45:=fun e=>h45 (UInt8.toNat_inj.1 (by rw[ei]at e;have:(45:UInt8).toNat=45:=rfl;omega))
    cases hA:dF top with
    | false=>
     rw[hA]at q154 hform;simp only[Bool.false_and]at hform;rw[hform,if_pos rfl];exact gg5
    | true=>
     rw[hA]at q154 hform;simp only[Bool.true_and]at hform;obtain⟨d1,d2⟩:=dA hA;have tl:=tl d2;have hres:(if B=true/\(dF bot && decide (bot≠[48]) && decide (bot≠[49]))=false then 1 else if 600<top.length\/600<bot.length then 4 else if B=true/\fI (ay 0 top) (ay 0 bot)=true then (1:Int) else 0)=(if iY u=false then 1 else if 600<top.length\/600<bot.length then 4 else if B=true/\fI (ay 0 top) (ay 0 bot)=true then 1 else 0):=by
      rw[hform];cases B with
      | false=>simp
      | true=>simp
     rw[hres]at tl;exact gg5
end Go.Ab.Ch1

/-
  Own work: the contracts of the reference's check of a number as a table.
-/
namespace Go.Ab.Ch1
open Go.Proofs Go.Ab.aY
variable {T:List (Nat×Spec)}
noncomputable def jM:Spec:=sK [] 153
noncomputable def DR:Spec:=sK [] 204
noncomputable def DS:Spec:=sK [(204,DR)] 154
noncomputable def DT:Spec:=sK [] 192
noncomputable def DU:Spec:=sK [(153,jM)] 92
theorem qB:aS Tryz.prog gl 153 jM:=bg bx
theorem acL:aS Tryz.prog gl 204 DR:=bg bx
theorem acM:aS Tryz.prog gl 154 DS:=bg (aP acL bx)
theorem acN:aS Tryz.prog gl 192 DT:=bg bx
theorem acO:aS Tryz.prog gl 92 DU:=bg (aP qB bx)
theorem th:∀(s:an) h,s.length<1000000->jM [.str s] h=some ⟨.iV (cw s),h,[]⟩:=fun s h hl=>bP (abW bj s hl) rfl rfl rfl h
theorem acP:∀(s:an) h,s.length<1000000->DS [.str s] h=some ⟨.bool (dF s),h,[]⟩:=fun s h hl=>
 bP (abY (M:=aX Tryz.prog FT [(204,DR)]) bj s hl fun h=>bP (abX bj s hl) rfl rfl rfl h) rfl rfl rfl h
theorem acQ:∀(s:an) h,s.length<=18->s.all bF=true->DT [.str s] h=some ⟨.iV (ay 0 s:Nat),h,[]⟩:=fun s h hl hd=>bP (aca bj s hl hd) rfl rfl rfl h
theorem k92:∀(s:an) h,s.length<1000000->DU [.str s] h=some ⟨.bool (decide (cw s=s.length)),h,[]⟩:=fun s h hl=>
 bP (w92 (M:=aX Tryz.prog FT [(153,jM)]) bj s fun h=>th s h hl) rfl rfl rfl h
noncomputable def Mt:List (Nat×Spec):=[(192,DT)]
theorem cPa:DI (aX Tryz.prog FT Mt) where
 ft:=bj
 dK:=fun _ _=>rfl
 td:=fun _ _=>rfl
 DJ:=fun s h hl hd=>acQ s h hl hd
noncomputable def yb:Spec:=sK Mt 193
theorem Mu:aS Tryz.prog gl 193 yb:=bg (aP acN bx)
theorem yc:∀(s:an),s.length<1000000->(bJ 45 s).all bF=true->∃v0,iZ v0 (if preB 45 s then -(ay 0 (bJ 45 s):Int) else (ay 0 (bJ 45 s):Nat))/\∀h,yb [.str s] h=some ⟨v0,h,[]⟩:=fun s hl hd=>by
 obtain⟨v0,h1,h2⟩:=acj cPa s hl hd;exact⟨v0,h1,dx h2 rfl⟩
noncomputable def Mv:List (Nat×Spec):=[(153,jM),(193,yb)]
noncomputable def DV:Spec:=sK Mv 135
theorem acT:aS Tryz.prog gl 135 DV:=bg (aP qB (aP Mu bx))
theorem DW {s:an}(h:s.all bF=true):preB 45 s=false/\bJ 45 s=s:=by
 have hp:preB 45 s=false:=by
  cases s with
  | nil=>rfl
  | cons c t=>
   rw[List.all_cons,Bool.and_eq_true]at h;unfold preB;rw[decide_eq_false_iff_not];intro e;simp at e;rw[e]at h;exact absurd h.1 (by decide)
 exact⟨hp,ky hp⟩
theorem acU:∀(s:an),s.length<1000000->js s=true->(bE 47 s).1.all bF=true->((bE 47 s).2.getD []).all bF=true->∃v1 v2,iZ v1 (ay 0 (bE 47 s).1:Nat)/\iZ v2 (ay 0 ((bE 47 s).2.getD []):Nat)/\∀h,DV [.str s] h=some ⟨.aq [v1,v2],h,[]⟩:=fun s hl hb h1 h2=>by
 obtain⟨p1,c1⟩:=DW h1;obtain⟨p2,c2⟩:=DW h2;obtain⟨v1,k1,q1⟩:=yc (bE 47 s).1 (Nat.lt_of_le_of_lt (sN 47 s) hl) (by rw[c1];exact h1);obtain⟨v2,k2,q2⟩:=yc ((bE 47 s).2.getD []) (Nat.lt_of_le_of_lt (Df 47 s) hl) (by rw[c2];exact h2);rw[p1,c1,if_neg (by decide)]at k1;rw[p2,c2,if_neg (by decide)]at k2;exact⟨v1,v2,k1,k2,dx (Mf (M:=aX Tryz.prog FT Mv) bj s hl hb (fun h=>th s h hl) k1.tc k2.tc q1 q2) rfl⟩
theorem yd {h:ab}(l:List Int){n:Nat}{c:Option Nat}:cT h (.vs (aj l) n c) (.vs (aj l) n c):=.mA (xX l)
noncomputable def ye:Spec:=sL [] 218
noncomputable def Mw:Spec:=sL [] 241
noncomputable def DX:Spec:=sL [] 197
noncomputable def Mx:Spec:=sL [] 243
theorem My:aS Tryz.prog gl 218 ye:=iX bx
theorem acV:aS Tryz.prog gl 241 Mw:=iX bx
theorem Mz:aS Tryz.prog gl 197 DX:=iX bx
theorem acW:aS Tryz.prog gl 243 Mx:=iX bx
noncomputable def yf:List (Nat×Spec):=[(218,ye),(197,DX),(241,Mw),(243,Mx)]
theorem acX:cA Tryz.prog gl (bm yf):=aP My (aP Mz (aP acV (aP acW bx)))
theorem MA:Mm (aX Tryz.prog FT yf) where
 ft:=bj
 dK:=fun _ _=>rfl
 Ml:=fun U V bu i k cu c2 e h T D p hb hV hi hU hK=>by
  obtain⟨q,h1,h2,h3,hr⟩:=acq (M:=aX Tryz.prog FT []) (c1:=none) (c2:=c2) bj hV hi hU hK rfl rfl rfl rfl rfl;refine⟨q,h1,h2,h3,?_⟩;have hf:cT h (.sl bu 0 U.length 1 cu) (.vs (aj U) U.length none):=by
   refine .sl (m:=aj U) hb ?_ rfl (xX U).2;have:=ke (f:=iC) (esz:=1) (fun _=>rfl) (l:=U) (i:=0) (n:=U.length) (by omega);simpa using this
  exact pL hr rfl rfl rfl (.cons hf (.cons (yd V) (.cons (.atom rfl) .nil)))
 xZ:=fun a b c1 c2 h o1 o2 n1 n2 l1 l2=>pL (Mg bj a b o1 o2 n1 n2 l1 l2) rfl rfl rfl (.cons (yd a) (.cons (yd b) .nil))
 tg:=fun x y a b c1 c2 h hx hy o1 o2 l1 l2 h0=>by
  obtain⟨r,⟨h1,h2,h3⟩,v,hh,⟨v1,f,t,k⟩,hr⟩:=Mj (M:=aX Tryz.prog FT []) (c1:=c1) (c2:=c2) bj (fun _ _=>rfl) a b o1 o2 l1 l2 h0;exact⟨r,h1,h2,h3,lh (.cons hx (.cons hy .nil)) ⟨v,hh,v1,hr,f,t,k⟩⟩
 DO:=fun x a c h d hx o l hd=>by
  obtain⟨q,⟨h1,h2,h3⟩,v,hh,⟨v1,f,t,k⟩,hr⟩:=acn (M:=aX Tryz.prog FT []) (c1:=c) bj (fun _ _=>rfl) a o l d hd;exact⟨q,h1,h2,h3,lh (.cons hx (.cons (.atom rfl) .nil)) ⟨v,hh,v1,hr,f,t,k⟩⟩
noncomputable def oM:Spec:=sK yf 195
theorem DY:aS Tryz.prog gl 195 oM:=bg acX
theorem cCm:Mp (aX Tryz.prog FT [(195,oM)]) where
 ft:=bj
 ja:=fun a b o1 o2 n1 n2 l1 l2 hb=>by
  obtain⟨q,r,⟨h1,h2,h3⟩,⟨h4,h5,h6⟩,v,hh,⟨v1,x,y,f,t,k,i1,i2⟩,hr⟩:=Mo (c1:=none) (c2:=none) MA a b o1 o2 n1 n2 l1 l2 hb;exact⟨x,q,y,r,i1,i2,h4,h5,h3,h6,fun h=>rF ⟨v,hh,v1,hr,f,fq (fc a) (fc b),t,k⟩⟩
noncomputable def yg:Spec:=sK [(195,oM)] 155
theorem MB:aS Tryz.prog gl 155 yg:=bg (aP DY bx)
noncomputable def DZ:List (Nat×Spec):=[(153,jM),(154,DS),(135,DV),(155,yg)]
theorem acZ:cA Tryz.prog gl (bm DZ):=aP qB (aP acM (aP acT (aP MB bx)))
theorem cCh:DP (aX Tryz.prog FT DZ) where
 ft:=bj
 Mr:=fun s h hl=>th s h hl
 DQ:=fun s h hl=>acP s h hl
 Ms:=fun s hl hb h1 h2=>acU s hl hb h1 h2
 qA:=fun a b o1 o2 n1 n2 l1 l2=>by
  obtain⟨g,h1,h2,h3,h4⟩:=acI cCm a b o1 o2 n1 n2 l1 l2;exact⟨g,h1,h2,h3,dx h4 (fq (fc a) (fc b))⟩
noncomputable def Ea:Spec:=sK DZ 62
theorem adb:aS Tryz.prog gl 62 Ea:=bg acZ
theorem k62:∀(s:an) h,s.length<1000000->Ea [.str s] h=some ⟨.iV (gC s),h,[]⟩:=fun s h hl=>bP (w62 cCh s hl) rfl rfl rfl h
end Go.Ab.Ch1

/-
  Own work: the code of functions: the reference numbers: arithmetic.
-/
namespace Go.Ab.Ch1
set_option maxRecDepth 1000000
def Eb:al:=.seq (zR [zm 9 5,zm 10 0,zl 11 10,zb 12 .lss 9 11,zn 13 12,zg (zm 14 5) 13 false,zg (zm 15 1) 13 false,zg (zl 16 15) 13 false,zg (zb 17 .lss 14 16) 13 false,zP 18 13 17,zn 19 18,zg (zm 20 4) 19 false,zg (zc 21 .gtr 20 0) 19 false,zP 22 19 21] (.cond (.l 22) (.skip) (.exit 0))) (.seq (.block 1 (zR [zm 25 0,zm 26 5,z2 27 254 25 26,zm 28 1,zm 29 5,z2 30 254 28 29,zb 31 .add 27 30,zm 32 4,zb 33 .add 31 32,zw 6 33] (zR [zm 34 3,zm 35 6,zc 36 .rem 35 1000000000,⟨.l 37,.dZ 3 1 1 [.iV (0)] [(0,1,(.l 36))],none⟩,⟨.l 38,.append 3 1 8 (.l 34) (.l 37),none⟩,zw 3 38] (.region [zm 39 6,zc 40 .quo 39 1000000000,zw 4 40])))) (.region [zm 23 5,zc 24 .add 23 1,zw 5 24]))
def MC:al:=zR [⟨.p 2,.mv (.c (.ae)),none⟩] (zR [⟨.p 3,.mv (.c (.ae)),none⟩] (zR [zi 4 0] (.seq (zR [zi 5 0] (.block 0 (.loop Eb))) (zR [zm 41 3,zw 2 41] (.ret)))))
theorem adf:FT 206=some ⟨42,[0,1,4,5,6,7,8],[.var (.p 2)],MC⟩:=by kernel_rfl
def qC:al:=.seq (zR [zm 9 5,zm 10 0,zl 11 10,zb 12 .lss 9 11] (.cond (.l 12) (.skip) (.exit 0))) (.seq (.block 1 (.seq (.draw [(zm 15 0,[]),(zm 16 5,[0]),(za 17 1 15 16,[]),(zd 18 1 17,[]),(zm 19 1,[0,1,2,3]),(zm 20 5,[0,1,2,3,4]),(z2 21 254 19 20,[0,1,2,3]),(zb 22 .sub 18 21,[]),(zm 23 4,[0,1,2,3,4,5,6,7]),(zb 24 .sub 22 23,[]),(zw 6 24,[])]) (zR [zi 4 0] (.seq (zR [zm 25 6,zc 26 .lss 25 0] (.cond (.l 26) (zR [zm 27 6,zc 28 .add 27 1000000000,zw 6 28] (.region [zi 4 1])) (.skip))) (.region [zm 29 3,zm 30 6,⟨.l 31,.dZ 3 1 1 [.iV (0)] [(0,1,(.l 30))],none⟩,⟨.l 32,.append 3 1 8 (.l 29) (.l 31),none⟩,zw 3 32]))))) (.region [zm 13 5,zc 14 .add 13 1,zw 5 14]))
def MD:al:=zR [⟨.p 2,.mv (.c (.ae)),none⟩] (zR [⟨.p 3,.mv (.c (.ae)),none⟩] (zR [zi 4 0] (.seq (zR [zi 5 0] (.block 0 (.loop qC))) (zR [zm 33 3,z1 34 242 33,zw 2 34] (.ret)))))
theorem adg:FT 219=some ⟨35,[0,1,4,5,6,7,8],[.var (.p 2)],MD⟩:=by kernel_rfl
def ME:al:=zR [zx 1 162 2 0,⟨.p 2,.alloc 162 [.bool false,.ae],none⟩] (zR [zf 3 0 1,zd 4 1 3,zu 5 4,zf 6 1 1,zd 7 1 6,z2 8 196 5 7,zs 2 2 8] (.ret))
theorem adh:FT 194=some ⟨9,[0,1,2],[.cell 2 true (.p 2)],ME⟩:=by kernel_rfl
def yh:al:=zR [zx 2 162 2 0,zx 3 162 2 1,⟨.p 4,.alloc 162 [.bool false,.ae],none⟩] (zR [zf 8 1 2,zd 9 1 8,zf 10 1 3,zd 11 1 10,z2 12 195 9 11,zn 7 12,ze 13 0 7,ze 14 1 7,zw 5 13,zw 6 14] (.seq (zR [zf 15 0 2,zd 16 1 15,zn 17 16,zg (zm 18 6) 17 true,zg (zl 19 18) 17 true,zg (zc 20 .gtr 19 0) 17 true,zp 21 17 20] (.cond (.l 21) (.region [zm 22 5,⟨.l 23,.dZ 3 1 1 [.iV (0)] [(0,1,(kI 1))],none⟩,z2 24 206 22 23,zw 5 24]) (.skip))) (zR [zf 25 0 2,zd 26 1 25,zm 27 5,z2 28 196 26 27,zs 2 4 28] (.ret))))
theorem MF:FT 161=some ⟨29,[0,1,2,3,4,5,6],[.cell 2 true (.p 4)],yh⟩:=by kernel_rfl
def MG:al:=.seq (zR [zm 5 1,zc 6 .gtr 5 0] (.cond (.l 6) (.skip) (.exit 0))) (.block 1 (.draw [(zm 7 1,[]),(zm 8 0,[0]),(zm 9 1,[0,1]),(zb 10 .rem 8 9,[0]),(zw 0 7,[2,3]),(zw 1 10,[])]))
def MH:al:=zR [zi 2 0] (.seq (.block 0 (.loop MG)) (zR [zm 11 0,zw 2 11] (.ret)))
theorem adi:FT 158=some ⟨12,[0,1,4],[.var (.p 2)],MH⟩:=by kernel_rfl
def Ec:al:=.seq (zR [zm 6 0,zc 7 .gtr 6 0,zn 8 7,zg (zm 9 3) 8 false,zg (zL 10 9) 8 false,zg (zm 11 1) 8 false,zg (zb 12 .lss 10 11) 8 false,zP 13 8 12] (.cond (.l 13) (.skip) (.exit 0))) (.block 1 (zR [zm 14 0,zc 15 .rem 14 10,zm 16 0,zc 17 .rem 16 10,zc 18 .add 17 1,⟨.l 19,.slice .str 1 (.c (.str zD9)) (some (.l 15)) (some (.l 18)) none,none⟩,zm 20 3,zb 21 .add 19 20,zw 3 21] (.region [zm 22 0,zc 23 .quo 22 10,zw 0 23])))
def MI:al:=zR [⟨.p 2,.mv (.c (.str [])),none⟩] (zR [⟨.p 3,.mv (.c (.str [])),none⟩] (.seq (.block 0 (.loop Ec)) (zR [zm 24 3,zw 2 24] (.ret))))
theorem adj:FT 117=some ⟨25,[0,1,4,5],[.var (.p 2)],MI⟩:=by kernel_rfl
def yi:al:=.seq (zR [zm 22 4,zc 23 .geq 22 0] (.cond (.l 23) (.skip) (.exit 0))) (.seq (.block 1 (.region [zm 26 3,zf 27 1 1,zd 28 1 27,zm 29 4,za 30 1 28 29,zd 31 1 30,⟨.l 32,.call (kF 117) [(.l 31),(kI 9)],none⟩,zb 33 .add 26 32,zw 3 33])) (.region [zm 24 4,zc 25 .sub 24 1,zw 4 25]))
def Ed:al:=zR [zx 1 162 2 0,⟨.p 2,.mv (.c (.str [])),none⟩] (.seq (zR [zf 5 1 1,zd 6 1 5,zl 7 6,zc 8 .eql 7 0] (.cond (.l 8) (zR [⟨.p 2,.mv (.c (.str [48])),none⟩] (.ret)) (.skip))) (zR [zf 9 1 1,zd 10 1 9,zf 11 1 1,zd 12 1 11,zl 13 12,zc 14 .sub 13 1,za 15 1 10 14,zd 16 1 15,⟨.l 17,.call (kF 117) [(.l 16),(kI 1)],none⟩,zw 3 17] (.seq (zR [zf 18 1 1,zd 19 1 18,zl 20 19,zc 21 .sub 20 2,zw 4 21] (.block 0 (.loop yi))) (.seq (zR [zf 34 0 1,zd 35 1 34] (.cond (.l 35) (zR [zm 36 3,⟨.l 37,.bin .add (.c (.str [45])) (.l 36),none⟩,zw 2 37] (.ret)) (.skip))) (zR [zm 38 3,zw 2 38] (.ret))))))
theorem MJ:FT 138=some ⟨39,[0,1,2,3,4],[.var (.p 2)],Ed⟩:=by kernel_rfl
def t136:al:=zR [zf 17 1 2,zd 18 1 17,zf 19 1 3,zd 20 1 19,z2 21 155 18 20,zw 5 21] (zR [zf 23 1 2,zd 24 1 23,zm 25 5,z2 26 195 24 25,zn 22 26,ze 27 0 22,ze 28 1 22,zw 6 27,zn 7 28] (zR [zf 30 1 3,zd 31 1 30,zm 32 5,z2 33 195 31 32,zn 29 33,ze 34 0 29,ze 35 1 29,zw 7 34,zn 9 35] (zR [zf 36 0 2,zd 37 1 36,zm 38 6,z2 39 196 37 38,z1 40 138 39,zw 8 40] (.seq (zR [zm 41 7,zl 42 41,zc 43 .eql 42 1,zn 44 43,zg (zm 45 7) 44 true,⟨.l 46,.cP none 1 (.l 45) (kI 0),some ((.l 44),true)⟩,zg (zd 47 1 46) 44 true,zg (zc 48 .eql 47 1) 44 true,zp 49 44 48] (.cond (.l 49) (zR [zm 50 8,zw 4 50] (.ret)) (.skip))) (zR [zm 51 8,⟨.l 52,.bin .add (.l 51) (.c (.str [47])),none⟩,zm 53 7,⟨.l 54,.call (kF 196) [(.c (.bool false)),(.l 53)],none⟩,z1 55 138 54,zb 56 .add 52 55,zw 4 56] (.ret))))))
def Ee:al:=zR [zx 2 162 2 0,zx 3 162 2 1,⟨.p 4,.mv (.c (.str [])),none⟩] (.seq (zR [zf 11 0 3,zd 12 1 11] (.cond (.l 12) (.draw [(zt 13 2 2,[]),(z1 14 194 13,[]),(zt 15 2 3,[0,1]),(z1 16 194 15,[]),(zs 2 2 14,[]),(zs 2 3 16,[])]) (.skip)))
   t136)
theorem adk:FT 136=some ⟨57,[0,1,2,3,4,5,6,8,10],[.var (.p 4)],Ee⟩:=by kernel_rfl
def t78:al:=zR [zm 32 0,zm 33 0,⟨.l 34,.bin .sub (kI 0) (.l 33),none⟩,⟨.l 35,.mm true [(.l 32),(.l 34)],none⟩,zm 36 1,z2 37 158 35 36,zw 3 37] (.seq (.draw [(zm 38 0,[]),(zm 39 3,[0]),(zb 40 .quo 38 39,[]),(zm 41 1,[0,1,2]),(zm 42 3,[0,1,2,3]),(zb 43 .quo 41 42,[0,1,2]),(zw 0 40,[3,4,5]),(zw 1 43,[])]) (zR [⟨.p 4,.mv (.c (.str [])),none⟩] (.seq (zR [zm 44 0,zc 45 .lss 44 0] (.cond (.l 45) (.region [⟨.p 4,.mv (.c (.str [45])),none⟩]) (.skip))) (zR [zm 46 4,zm 47 0,zm 48 0,⟨.l 49,.bin .sub (kI 0) (.l 48),none⟩,⟨.l 50,.mm true [(.l 47),(.l 49)],none⟩,⟨.l 51,.call (kF 117) [(.l 50),(kI 1)],none⟩,zb 52 .add 46 51,zw 4 52] (.seq (zR [zm 53 1,zc 54 .gtr 53 1] (.cond (.l 54) (.region [zm 55 4,⟨.l 56,.bin .add (.l 55) (.c (.str [47])),none⟩,zm 57 1,⟨.l 58,.call (kF 117) [(.l 57),(kI 1)],none⟩,zb 59 .add 56 58,zw 4 59]) (.skip))) (zR [zm 60 4,zw 2 60] (.ret)))))))
def Ef:al:=zR [⟨.p 2,.mv (.c (.str [])),none⟩] (.seq (zR [zm 7 0,zc 8 .lss 7 (-4000000000000000000),zn 9 8,zg (zm 10 0) 9 false,zg (zc 11 .gtr 10 4000000000000000000) 9 false,zP 12 9 11,zn 13 12,zg (zm 14 1) 13 false,zg (zc 15 .lss 14 (-4000000000000000000)) 13 false,zP 16 13 15,zn 17 16,zg (zm 18 1) 17 false,zg (zc 19 .gtr 18 4000000000000000000) 17 false,zP 20 17 19] (.cond (.l 20) (zR [zm 21 0,z1 22 139 21,zm 23 1,z1 24 139 23,z2 25 136 22 24,zw 2 25] (.ret)) (.skip))) (.seq (zR [zm 26 1,zc 27 .lss 26 0] (.cond (.l 27) (.region [zm 28 0,⟨.l 29,.bin .sub (kI 0) (.l 28),none⟩,zm 30 1,⟨.l 31,.bin .sub (kI 0) (.l 30),none⟩,zw 0 29,zw 1 31]) (.skip)))
 t78))
theorem adl:FT 78=some ⟨61,[0,1,4,5,6],[.var (.p 2)],Ef⟩:=by kernel_rfl
def MK:al:=zR [zi 1 0] (.seq (zR [zm 3 0,⟨.l 4,.bin .eql (.l 3) (.c (.str [48])),none⟩] (.cond (.l 4) (zR [zi 1 0] (.ret)) (.skip))) (.seq (zR [zm 5 0,zL 6 5,zc 7 .gtr 6 0,zn 8 7,zg (zm 9 0) 8 true,⟨.l 10,.index (.l 9) (kI 0),some ((.l 8),true)⟩,⟨.l 11,.bin .eql (.l 10) (.c (.int .u8 (45))),some ((.l 8),true)⟩,zp 12 8 11] (.cond (.l 12) (zR [zi 1 (-1)] (.ret)) (.skip))) (zR [zi 1 1] (.ret))))
theorem adm:FT 140=some ⟨13,[0,2],[.var (.p 1)],MK⟩:=by kernel_rfl
def ML:al:=zR [⟨.p 1,.mv (.c (.str [])),none⟩] (.seq (zR [zm 5 0,z1 6 92 5] (.cond (.l 6) (zR [zm 7 0,zw 1 7] (.ret)) (.skip))) (zR [zm 9 0,z1 10 135 9,zn 8 10,ze 11 0 8,ze 12 1 8,⟨.p 2,.alloc 162 [.bool false,.ae],none⟩,⟨.p 3,.alloc 162 [.bool false,.ae],none⟩,zs 2 2 11,zs 2 3 12] (zR [zt 13 2 2,zt 14 2 3,z2 15 161 13 14,z1 16 138 15,zw 1 16] (.ret))))
theorem adn:FT 80=some ⟨17,[0,2,3,4],[.var (.p 1)],ML⟩:=by kernel_rfl
end Go.Ab.Ch1

/-
  Own work: the reference's integers: sums and differences of digits.
-/
namespace Go.Ab.Ch1
open Go.Ab.aY
variable {M:ax} {cap c1 c2:Option Nat}
theorem Eg {y:List Int}(ok:okW dB y)(i:Nat):0<=fG y i/\fG y i<1000000000:=by
 unfold fG;split
 . rename_i h;exact bY ok h
 . exact⟨by decide,by decide⟩
theorem ado (hft:M.FT=FT)(a:List Int)(i:Int)(hi:0<=i):aT M 254 [.vs (aj a) a.length c1,.iV i] [] ⟨.iV (fG a i.toNat),[],[]⟩:=by
 refine bH (by rw[hft];exact abV) (by simp) ?_;unfold fG;unfold LU;simp only[enter];by_cases h:i.toNat<a.length
 . rw[if_pos h];exact gg13
 . rw[if_neg h];exact gg13
theorem Eh (hft:M.FT=FT)(K:ab):aT M 242 [.ae] K ⟨.ae,K,[]⟩:=by
 refine lf (by rw[hft];exact xN) (by simp) (by simp[AV.top]) ?_;unfold sW;simp only[enter];refine gg3 ?_;refine W.loop ?_;unfold jr;exact gg7
def MM (M:ax)(g:Nat)(ars:List AV)(n:Nat)(z:Int):Prop:=∃r:List Int,(okW dB r/\WV dB r=z/\r.length<=n)/\∃v hh,fU v hh r/\aT M g ars [] ⟨v,hh,[]⟩
theorem adp {f N n:Nat}{aO:List Nat}{res:List ew}{body:al}{ars:List AV}{z:Int}(hft:M.FT f=some ⟨N,aO,res,body⟩)(hN:ars.length<=N)
 (h:W M body ⟨⟨aO.map (fun t=>(ars[t]?).getD cB),[],[],[]⟩,[]⟩ fun e s=>(e = .normal\/e = .ret)/\s.s.bX=[]/\∃vs,de s.s res=some vs/\∃r:List Int,(okW dB r/\WV dB r=z/\r.length<=n)/\fU (aV vs) (if (aV vs).top<=0 then [] else s.s.hp) r):MM M f ars n z:=by
 obtain⟨v,hh,⟨r,hr,ho⟩,h2⟩:=fZ (P:=fun v hh=>∃r:List Int,(okW dB r/\WV dB r=z/\r.length<=n)/\fU v hh r) hft hN h;exact⟨r,hr,v,hh,ho,h2⟩
theorem fU.Fk {K:ab}{o:AV}{acc:List Int}{S:List Nat}(h:cz iC 1 3 K o acc S):fU (aV [o]) (if (aV [o]).top<=0 then [] else K) acc:=
 ⟨.vs (aj acc) acc.length none,h.Se (fun _=>rfl) (fun _=>rfl) (fun _=>rfl),fc acc,by rw[cd,DE]⟩
section
variable {t:Nat} {x y:aL} {l:List aU} {pe:List AV} {lo:List (Nat×AV)} {hp:ab} {df wr:List Nat} {v a d:Int} {Q:ao->Prop}
theorem agl (hx:(St.mk pe lo hp df).aa x=some (.iV a))(hy:(St.mk pe lo hp df).aa y=some (.iV d))(ha:0<=a/\a<9223372036854775808)(hd:0<d)(hv:a/d=v)
 (h:WO M l ⟨⟨pe,(t,.iV v)::lo,hp,df⟩,wr⟩ Q):WO M (⟨.l t,.bin .quo x y,none⟩::l) ⟨⟨pe,lo,hp,df⟩,wr⟩ Q:=afX hx hy ha hd (by rw[hv];exact h)
theorem agS (hx:(St.mk pe lo hp df).aa x=some (.iV a))(hy:(St.mk pe lo hp df).aa y=some (.iV d))(ha:0<=a)(hd:0<d)(hv:a%d=v)
 (h:WO M l ⟨⟨pe,(t,.iV v)::lo,hp,df⟩,wr⟩ Q):WO M (⟨.l t,.bin .rem x y,none⟩::l) ⟨⟨pe,lo,hp,df⟩,wr⟩ Q:=agd hx hy ha hd (by rw[hv];exact h)
end
structure Ei (M:ax):Prop where
 ft:M.FT=FT
 yj:∀(a:List Int) c (i:Int) h,0<=i->M.ext 254 [.vs (aj a) a.length c,.iV i] h=some ⟨.iV (fG a i.toNat),h,[]⟩
 dK:∀ars h,M.ext 242 ars h=none
theorem adq (C:Ei M)(a b:List Int)(oa:okW dB a)(ob:okW dB b)(la:a.length<1000000)(lb:b.length<1000000):MM M 206 [.vs (aj a) a.length c1,.vs (aj b) b.length c2] (a.length+b.length+1) (WV dB a+WV dB b):=by
 refine adp (by rw[C.ft];exact adf) (by simp) ?_;unfold MC;simp only[enter];refine gg3 ?_;obtain⟨n,hn⟩:∃n:Nat,a.length<=n/\b.length<=n/\n<=a.length+b.length/\(n=a.length\/n=b.length):=⟨max a.length b.length,by omega,by omega,by omega,by omega⟩;refine W.fE (fun m st=>∃i acc o c a6 K lo wr,st=⟨⟨[.vs (aj a) a.length c1,.vs (aj b) b.length c2,.ae,o,.iV c,.iV (i:Nat),a6],lo,K,[]⟩,wr⟩/\m=n+1-i/\i<=n+1/\(i=n+1->c=0)/\(0<=c/\c<=1)/\okW dB acc/\acc.length=i/\cz iC 1 3 K o acc []/\WV dB acc+dB^i*c=WV dB (a.take i)+WV dB (b.take i))
  (fun m st ⟨i,acc,o,c,a6,K,lo,wr,hst,hm,hi,hic,hc,oA,lA,ho,hv⟩=>?_) (m:=n+1) ⟨0,[],.ae,0,_,_,_,_,rfl,rfl,by omega,fun _=>rfl,⟨by decide,by decide⟩,ij,rfl,.nM,by simp[WV]⟩
 subst hst;by_cases hend:i<a.length\/i<b.length\/0<c
 . have ga:=Eg oa i;have gb:=Eg ob i;have ta:=rO (B:=dB) (y:=a) (i:=i);have tb:=rO (B:=dB) (y:=b) (i:=i);have q1:=fun h=>C.yj a c1 i h (by omega)
   have q2:=fun h=>C.yj b c2 i h (by omega)
   rw[Int.toNat_natCast]at q1 q2;have za:a.length<=i->fG a i=0:=fun h=>if_neg (by omega)
   have zb:b.length<=i->fG b i=0:=fun h=>if_neg (by omega)
   generalize fG a i=x at *
   generalize fG b i=y at *
   have hi2:i<=n:=by
    rcases Nat.lt_or_ge n i with h|h
    . have:=hic (by omega);omega
    . exact h
   obtain⟨R,hR⟩:∃R,R=(x+y+c)%1000000000:=⟨_,rfl⟩;obtain⟨D,hD⟩:∃D,D=(x+y+c)/1000000000:=⟨_,rfl⟩;have hroom:(acc.length+1)*8<=dD:=by unfold dD;omega
   have hD0:i+1=n+1->D=0:=fun h=>by
    have h1:=za (by omega);have h2:=zb (by omega);omega
   have hval:WV dB (acc++[R])+dB^(i+1)*D=WV dB (a.take (i+1))+WV dB (b.take (i+1)):=by
    rw[fF,lA,ta,tb,Int.pow_succ];have e1:WV dB [R]=R:=by simp[WV]
    have e2:R+1000000000*D=x+y+c:=by omega
    have e3:dB^i*(R+1000000000*D)=dB^i*(x+y+c):=by rw[e2]
    rw[e1];show WV dB acc+dB^i*R+dB^i*1000000000*D=_;grind
   unfold Eb;exact gg5
 . have h1:a.take i=a:=List.take_of_length_le (by omega);have h2:b.take i=b:=List.take_of_length_le (by omega);have hc0:c=0:=by omega
   rw[h1,h2,hc0,Int.mul_zero,Int.add_zero]at hv;unfold Eb;exact gg9
theorem adr (C:Ei M)(a b:List Int)(oa:okW dB a)(ob:okW dB b)(la:a.length<1000000)(lb:b.length<=a.length)(hle:WV dB b<=WV dB a):xW M 219 [.vs (aj a) a.length c1,.vs (aj b) b.length c2] (WV dB a-WV dB b):=by
 refine DG (by rw[C.ft];exact adg) (by simp) ?_;unfold MD;simp only[enter];refine gg3 ?_;refine W.iQ a.length (fun i st=>∃acc o c a6 K lo wr,st=⟨⟨[.vs (aj a) a.length c1,.vs (aj b) b.length c2,.ae,o,.iV c,.iV i,a6],lo,K,[]⟩,wr⟩/\(0<=c/\c<=1)/\okW dB acc/\acc.length=i/\cz iC 1 3 K o acc []/\WV dB acc-dB^i*c=WV dB (a.take i)-WV dB (b.take i))
  (fun i st hi ⟨acc,o,c,a6,K,lo,wr,hst,hc,oA,lA,ho,hv⟩=>?_) (fun st ⟨acc,o,c,a6,K,lo,wr,hst,hc,oA,lA,ho,hv⟩=>?_) (Nat.zero_le _) ⟨[],.ae,0,_,_,_,_,rfl,⟨by decide,by decide⟩,ij,rfl,.nM,by simp[WV]⟩
 . subst hst;have ga:=bY oa hi;have gb:=Eg ob i;have ta:=eO (b:=dB) (l:=a) hi;have tb:=rO (B:=dB) (y:=b) (i:=i);have q2:=fun h=>C.yj b c2 i h (by omega)
   rw[Int.toNat_natCast]at q2;obtain⟨x,hx⟩:∃x,x=a[((i:Int)).toNat]! := ⟨_,rfl⟩;rw[show a[i]! = x from hx.symm]at ga ta;have ga:0<=x/\x<1000000000:=ga;generalize fG b i=y at *
   have hroom:(acc.length+1)*8<=dD:=by unfold dD;omega
   have next:∀(R D:Int) H o' a6 lo wr,cz iC 1 3 H o' (acc++[R]) []->(0<=D/\D<=1)->(0<=R/\R<1000000000)->R-1000000000*D=x-y-c->LI (fun st=>∃acc o c a6 K lo wr,st=⟨⟨[.vs (aj a) a.length c1,.vs (aj b) b.length c2,.ae,o,.iV c,.iV ((i+1:Nat):Int),a6],lo,K,[]⟩,wr⟩/\(0<=c/\c<=1)/\okW dB acc/\acc.length=i+1/\cz iC 1 3 K o acc []/\WV dB acc-dB^(i+1)*c=WV dB (a.take (i+1))-WV dB (b.take (i+1)))
    (BQ 0 (SQ M (zR [zm 33 3,z1 34 242 33,zw 2 34] (.ret)) (fun e s=>(e = .normal\/e = .ret)/\s.s.bX=[]/\∃vs,de s.s [.var (.p 2)]=some vs/\∃r:List Int,(okW dB r/\az r/\WV dB r=WV dB a-WV dB b)/\fU (aV vs) (if (aV vs).top<=0 then [] else s.s.hp) r)))
    .normal ⟨⟨[.vs (aj a) a.length c1,.vs (aj b) b.length c2,.ae,o',.iV D,.iV ((i:Int)+1),a6],lo,H,[]⟩,wr⟩:=fun R D H o' a6 lo wr ho' hD hR he=>
    da ⟨acc++[R],o',D,a6,H,lo,wr,rfl,hD,jg oA (fun z hz=>by rw[List.mem_singleton.1 hz];exact hR),by simp[lA],ho',by
     rw[fF,lA,ta,tb,Int.pow_succ];have e1:WV dB [R]=R:=by simp[WV]
     have e3:dB^i*(R-1000000000*D)=dB^i*(x-y-c):=by rw[he]
     rw[e1];show WV dB acc+dB^i*R-dB^i*1000000000*D=_;grind⟩
   by_cases hneg:x-y-c<0
   . rw[hx]at hneg;unfold qC;exact gg16
   . rw[hx]at hneg;unfold qC;exact gg16
 . subst hst;have h2:b.take a.length=b:=List.take_of_length_le lb;rw[List.take_length,h2]at hv;have hc0:c=0:=by
    have h1:=dr (b:=dB) (by decide) oA;rw[lA]at h1;rcases (show c=0\/c=1 by omega) with h|h
    . exact h
    . rw[h,Int.mul_one]at hv;omega
   rw[hc0,Int.mul_zero,Int.sub_zero]at hv;obtain⟨g1,g2,g3⟩:=oI oA;rcases ho with ⟨rfl,rfl⟩|⟨k,cap,_,rfl,hk,hcap⟩
   . have ha0:a.length=0:=lA.symm;have q0:CT M (ib 242) [.ae] K ⟨.ae,K,[]⟩:=CT.run (fi:=[]) (ca:=[]) (C.dK _ _) (Eh C.ft K);unfold qC;exact gg4
   . have hpos:0<acc.length\/acc.length=0:=by omega
     rcases hpos with h0|h0
     . obtain rfl:cap=none:=hcap.resolve_right fun h=>by rw[h.1]at h0;simp at h0
       have q1:=oK (cap:=none) C.ft C.dK hk h0 (Nat.le_refl _) (by omega) (fun c hc=>by cases hc);have hout:=fU.trim (cap:=none) hk (Nat.le_refl acc.length);rw[List.take_length]at q1 hout;unfold qC;exact gg4
     . have ha0:acc=[]:=List.eq_nil_of_length_eq_zero h0;subst ha0;have q1:CT M (ib 242) [.sl k 0 ([]:List Int).length 1 cap] K ⟨.sl k 0 ([]:List Int).length 1 cap,K,[]⟩:=CT.run (fi:=[]) (ca:=[]) (C.dK _ _) (DK C.ft hk);unfold qC;exact gg4
end Go.Ab.Ch1

/-
  Own work: the reference's integers: signs, sums, products, negatives.
-/
namespace Go.Ab.Ch1
open Go.Ab.aY
variable {M:ax} {cap c1 c2:Option Nat}
theorem ads (hft:M.FT=FT)(l:List Int)(hl:l.length<1000000000)(K:ab):aT M 242 [.vs (aj l) l.length cap] K ⟨.vs (aj (l.take (aN l))) (l.take (aN l)).length cap,K,[]⟩:=by
 refine lf (by rw[hft];exact xN) (by simp) (by simp[AV.top,fc]) ?_;have loop:∀(r:Nat) (lo:List (Nat×AV)) (a1:AV) {Q:Ex->ao->Prop},r<=l.length->aN (l.take r)=aN l->(∀lo,Q (.exit 0) ⟨⟨[.vs (aj (l.take (aN l))) (l.take (aN l)).length cap,a1],lo,K,[]⟩,[]⟩)->W M (.loop jr) ⟨⟨[.vs (aj (l.take r)) (l.take r).length cap,a1],lo,K,[]⟩,[]⟩ Q:=by
  intro r;induction r with
  | zero=>
   intro lo a1 Q hr he hQ;have e0:aN l=0:=by rw[←he];rfl
   rw[e0]at hQ;have hl0:(l.take 0).length=0:=rfl;refine W.loop ?_;unfold jr;exact gg7
  | succ r ih=>
   intro lo a1 Q hr he hQ;have e:=nX (l:=l) (i:=r) (by omega);have hlr:(l.take (r+1)).length=r+1:=by rw[List.length_take];omega
   have eg:(l.take (r+1))[(((l.take (r+1)).length:Int)-1).toNat]! = l[r]! := by
    rw[hlr,show (((r+1:Nat):Int)-1).toNat=r by omega,List.getElem!_eq_getElem?_getD,List.getElem!_eq_getElem?_getD,List.getElem?_take_of_lt (by omega)]
   have et:(l.take (r+1)).take ((((l.take (r+1)).length:Nat):Int)-1).toNat=l.take r:=by
    rw[hlr,show (((r+1:Nat):Int)-1).toNat=r by omega,List.take_take,Nat.min_eq_left (by omega)]
   have next:∀lo,W M (.loop jr) ⟨⟨[.vs (aj ((l.take (r+1)).take ((((l.take (r+1)).length:Nat):Int)-1).toNat)) ((l.take (r+1)).take ((((l.take (r+1)).length:Nat):Int)-1).toNat).length cap,a1],lo,K,[]⟩,[]⟩ Q\/l[r]! ≠ 0:=fun lo=>by
    by_cases h0:l[r]! = 0
    . rw[if_pos h0]at e;rw[et];exact .inl (ih _ _ (by omega) (e.symm.trans he) hQ)
    . exact .inr h0
   have fin:l[r]! ≠ 0->l.take (aN l)=l.take (r+1):=fun h0=>by
    rw[if_neg h0]at e;rw[←he,e]
   rw[←eg]at next fin
   refine W.loop ?_;by_cases h0:(l.take (r+1))[(((l.take (r+1)).length:Int)-1).toNat]! = 0
   . have next:=fun lo=>(next lo).resolve_right fun h=>h h0
     generalize l.take (r+1)=L at *
     unfold jr;exact gg13
   . rw[fin h0]at hQ;generalize l.take (r+1)=L at *
     unfold jr;exact gg13
 unfold sW;simp only[enter];refine gg3 ?_;have h0:=loop l.length;rw[List.take_length]at h0;refine h0 _ _ (Nat.le_refl _) rfl (fun lo=>?_);exact gg8
def bO (neg:Bool)(z:Int):Int:=if neg then -z else z
theorem adt (hft:M.FT=FT)(dK:∀ars h,M.ext 242 ars h=none)(neg:Bool){x:AV}{l:List Int}(hx:cm x l)(ok:okW dB l)(hl:l.length<1000000000):∃v0,cG v0 (bO neg (WV dB l))/\cK M 196 [.bool neg,x] v0:=by
 obtain⟨g1,g2,g3⟩:=oI ok;rcases hx with rfl|⟨rfl,rfl⟩
 . refine⟨.agg [.bool (neg && decide (0<aN l)),.vs (aj (l.take (aN l))) (l.take (aN l)).length none],⟨_,_,_,rfl,.inl rfl,g1,g2,?_,fun h e=>?_⟩,?_⟩
   . rw[g3,bO];cases neg with
     | false=>rfl
     | true=>
      by_cases h0:0<aN l
      . rw[decide_eq_true h0];rfl
      . rw[decide_eq_false h0];have:WV dB l=0:=by rw[←g3,show aN l=0 by omega];rfl
        rw[this];rfl
   . rw[Bool.and_eq_true,decide_eq_true_eq]at h;have:=congrArg List.length e;have hle:=hZ (l:=l);rw[List.length_take,List.length_nil]at this;omega
   . have q1:=fun K=>CT.run (fi:=[]) (ca:=[]) (ars:=[.vs (aj l) l.length none]) (dK _ _) (ads (cap:=none) hft l hl K)
     have hT:(l.take (aN l)).length=aN l:=by rw[List.length_take];have:=hZ (l:=l);omega
     generalize l.take (aN l)=L at *
     rw[←hT];have fin:∀(b:Bool) hh,fa (.agg [.bool b,.vs (aj L) L.length none]) hh (.agg [.bool b,.vs (aj L) L.length none]):=fun b hh=>.same (by simp[AV.top,bk,fc]) (by simp[bK,cJ,oJ])
     refine cI (by rw[hft];exact xM) (by simp) ?_;unfold sV;simp only[enter];cases neg with
     | false=>
      exact gg1
     | true=>
      by_cases h0:0<L.length
      . rw[decide_eq_true h0];exact gg1
      . rw[decide_eq_false h0];exact gg1
 . refine⟨.agg [.bool false,.ae],⟨false,.ae,[],rfl,.inr ⟨rfl,rfl⟩,ij,jy,by cases neg <;> rfl,fun h=>by cases h⟩,?_⟩;have q1:=fun K=>CT.run (fi:=[]) (ca:=[]) (ars:=[.ae]) (dK _ _) (Eh hft K)
   refine cI (by rw[hft];exact xM) (by simp) ?_;unfold sV;simp only[enter];cases neg with
   | false=>
    exact gg1
   | true=>
    exact gg1
end Go.Ab.Ch1

/-
  Own work: the reference's integers: sums, products, negatives, quotients rounded downwards.
-/
namespace Go.Ab.Ch1
open Go.Ab.aY
variable {M:ax} {cap c1 c2:Option Nat} {N:Nat}
theorem cm.gB {h:ab}{x:AV}{l:List Int}(hx:cm x l):cT h x (.vs (aj l) l.length none):=by
 rcases hx with rfl|⟨rfl,rfl⟩
 . exact cT.mA (uI (fun _=>.cons (.atom rfl) .nil) l)
 . exact .nil
theorem cG.abs {v:AV}{z:Int}(h:cG v z)(lz:ak z<dB^N):∃neg x l,v = .agg [.bool neg,x]/\cm x l/\okW dB l/\az l/\l.length<=N/\z=bO neg (WV dB l)/\WV dB l=ak z/\(neg=true->l≠[]):=by
 obtain⟨neg,x,l,rfl,hx,ok,nr,hz,hn⟩:=h;have h0:=cn (b:=dB) (by decide) ok;have e:WV dB l=ak z:=by
  rw[hz];unfold ak;cases neg with
  | false=>simp only[Bool.false_eq_true,↓reduceIte];rw[if_neg (by omega)]
  | true=>simp only[↓reduceIte];split <;> omega
 exact⟨neg,x,l,rfl,hx,ok,nr,fQ (b:=dB) (by decide) ok nr (by rw[e];exact lz),hz,e,hn⟩
structure MN (M:ax):Prop where
 ft:M.FT=FT
 ti:∀l m k1 k2,okW dB l->okW dB m->l.length<1000000->m.length<1000000->∃r,okW dB r/\WV dB r=WV dB l+WV dB m/\r.length<=l.length+m.length+1/\∀x y h,cT h x (.vs (aj l) l.length k1)->cT h y (.vs (aj m) m.length k2)->M.ext 206 [x,y] h=some ⟨.vs (aj r) r.length none,h,[]⟩
 adu:∀l m,okW dB l->okW dB m->az l->az m->l.length<1000000->m.length<1000000->WV dB m<=WV dB l->∃r,okW dB r/\az r/\WV dB r=WV dB l-WV dB m/\∀x y h,cm x l->cm y m->M.ext 219 [x,y] h=some ⟨.vs (aj r) r.length none,h,[]⟩
 xZ:∀l m x y h,okW dB l->okW dB m->az l->az m->l.length<1000000->m.length<1000000->cm x l->cm y m->M.ext 218 [x,y] h=some ⟨.iV (bD (WV dB l-WV dB m)),h,[]⟩
 tg:∀l m,okW dB l->okW dB m->l.length<1000000->m.length<1000000->∃r,okW dB r/\az r/\WV dB r=WV dB l*WV dB m/\∀x y h,cm x l->cm y m->M.ext 197 [x,y] h=some ⟨.vs (aj r) r.length none,h,[]⟩
 jN:∀neg x l,cm x l->okW dB l->l.length<1000000000->∃v0,cG v0 (bO neg (WV dB l))/\∀h,M.ext 196 [.bool neg,x] h=some ⟨v0,h,[]⟩
theorem cG.out {v:AV}{z:Int}{hh:ab}(h:cG v z):fa (aV [v]) hh v:=by
 obtain⟨neg,x,l,rfl,_,_,ht,hc⟩:=h.shape;refine .same ?_ ?_
 . show max 0 (max x.top 0)=0;rw[ht];rfl
 . show AV.agg [.bool neg,bK x]=_;rw[hc]
theorem adv (C:MN M){a:AV}{z:Int}(ha:cG a z)(lz:ak z<dB^N)(hN:N<=100000):∃v0,cG v0 (-z)/\cK M 194 [a] v0:=by
 obtain⟨neg,x,l,rfl,hx,ok,nr,ll,hz,_,_⟩:=ha.abs lz;obtain⟨v0,h0,q⟩:=C.jN (!neg) x l hx ok (by omega);have e:bO (!neg) (WV dB l) = -z:=by rw[hz];cases neg <;> simp[bO]
 rw[e]at h0;refine⟨v0,h0,cI (by rw[C.ft];exact adh) (by simp) ?_⟩;have out:=fun hh=>h0.out (hh:=hh)
 obtain⟨n0,x0,l0,rfl,hx0,o0,_,_⟩:=h0.shape;unfold ME;simp only[enter];cases neg;all_goals
 . rcases hx with rfl|⟨rfl,rfl⟩;all_goals
   . repeat' first|(apply ade;rfl;rfl;rfl;exact⟨rfl,Nat.le_refl _,jT o0⟩;rfl)|apply aap|apply aM|apply aaF|apply aaY|apply abu|(apply abD;rfl;rfl;first|exact q _)|(apply afw;rfl;(first|(focus((repeat' first|exact bW|assumption|apply bT);done))|exact dg (by simp));rfl)|(apply acK;rfl;rfl;rfl)|(apply aab;rfl;rfl)
     all_goals exact cD rfl rfl (out _)
end Go.Ab.Ch1

/-
  Own work: the reference's integers: sums.
-/
namespace Go.Ab.Ch1
open Go.Ab.aY
variable {M:ax} {cap c1 c2:Option Nat} {N:Nat}
end Go.Ab.Ch1

/-
  Own work: the reference's integers: texts of digits.
-/
namespace Go.Ab.Ch1
open Go.Ab.aY
variable {M:ax} {cap c1 c2:Option Nat} {N:Nat}
theorem adw (k n:Nat):dE (n/10^k%10)::cE k n=cE (k+1) n:=by
 refine JB (by simp[ko]) fun j hj=>?_
 cases j with
 | zero=>rfl
 | succ j=>
  have e:(dE (n/10^k%10)::cE k n)[j+1]! = (cE k n)[j]! := by simp[List.getElem!_eq_getElem?_getD]
  rw[e,Cq (by omega),show k+1-1-(j+1)=k-1-j by omega]
theorem adx {d:Nat}(h:d<10):(([48,49,50,51,52,53,54,55,56,57]:an).drop d).take (d+1-d)=[dE d]:=by
 match d,h with
 | 0,_=>rfl
 | 1,_=>rfl
 | 2,_=>rfl
 | 3,_=>rfl
 | 4,_=>rfl
 | 5,_=>rfl
 | 6,_=>rfl
 | 7,_=>rfl
 | 8,_=>rfl
 | 9,_=>rfl
theorem Ej:(10:Nat)^19=10000000000000000000:=rfl
theorem MO (hft:M.FT=FT)(n L:Nat)(hn:n<9223372036854775808)(hL:1<=L/\L<=18):∃k,L<=k/\n<10^k/\(k=L\/10^(k-1)<=n)/\aT M 117 [.iV (n:Nat),.iV (L:Nat)] [] ⟨.str (cE k n),[],[]⟩:=by
 obtain⟨v,hh,⟨k,h1,h2,h3,rfl,rfl⟩,hr⟩:=fZ (M:=M) (f:=117) (ars:=[.iV (n:Nat),.iV (L:Nat)]) (P:=fun v hh=>∃k,L<=k/\n<10^k/\(k=L\/10^(k-1)<=n)/\v = .str (cE k n)/\hh=[]) (by rw[hft];exact adj) (by simp) (by
  unfold MI;simp only[enter];refine gg3 ?_;refine W.fE (fun m st=>∃j lo wr,st=⟨⟨[.iV (n/10^j:Nat),.iV L,.str [],.str (cE j n)],lo,[],[]⟩,wr⟩/\m=20-j/\j<=20/\(j<=L\/10^(j-1)<=n)) (fun m st ⟨j,lo,wr,hst,hm,hj,hb⟩=>?_) (m:=20) ⟨0,[],[],by rw[Nat.pow_zero,Nat.div_one];rfl,rfl,by omega,.inl (by omega)⟩;subst hst;have hl:=ko j n;by_cases hgo:0<n/10^j\/j<L
  . have hj19:j<19:=by
     rcases Nat.lt_or_ge j 19 with h|h
     . exact h
     . exfalso;have p:(10:Nat)^19<=10^j:=Nat.pow_le_pow_right (by decide) h;rw[Ej]at p;have:n/10^j=0:=Nat.div_eq_of_lt (by omega);omega
    have hd:n/10^j%10<10:=Nat.mod_lt _ (by decide);have ec:=adx hd;have ef:=adw j n;have eq:n/10^j/10=n/10^(j+1):=by rw[Nat.div_div_eq_div_mul,Nat.pow_succ]
    have hb':j+1<=L\/10^(j+1-1)<=n:=by
     rcases hgo with h|h
     . right;rw[Nat.add_sub_cancel];refine Nat.le_of_not_lt fun h2=>?_
       rw[Nat.div_eq_of_lt h2]at h;omega
     . exact .inl h
    have hq:n/10^j<=n:=Nat.div_le_self _ _;obtain⟨q,hqq⟩:∃q,q=n/10^j:=⟨_,rfl⟩;rw[←hqq]at hd ec ef eq hq hgo;rw[←hqq];generalize cE j n=s at *
    have e1:(((q:Nat):Int)%10).toNat=q%10:=by omega
    have e2:(((q:Nat):Int)%10+1).toNat=q%10+1:=by omega
    have ec':(([48,49,50,51,52,53,54,55,56,57]:an).drop (((q:Nat):Int)%10).toNat).take ((((q:Nat):Int)%10+1).toNat-(((q:Nat):Int)%10).toNat)=[dE (q%10)]:=by rw[e1,e2];exact ec
    have l1:([dE (q%10)]:an).length=1:=rfl;have fin:∀lo wr,LI (fun st=>∃m',m'<m/\∃j lo wr,st=⟨⟨[.iV (n/10^j:Nat),.iV L,.str [],.str (cE j n)],lo,[],[]⟩,wr⟩/\m'=20-j/\j<=20/\(j<=L\/10^(j-1)<=n))
     (BQ 0 (SQ M (zR [zm 24 3,zw 2 24] (.ret)) (fun e s=>(e = .normal\/e = .ret)/\s.s.bX=[]/\∃vs,de s.s [.var (.p 2)]=some vs/\∃k,L<=k/\n<10^k/\(k=L\/10^(k-1)<=n)/\aV vs = .str (cE k n)/\(if (aV vs).top<=0 then [] else s.s.hp)=[])))
     .normal ⟨⟨[.iV (((q:Nat):Int)/10),.iV L,.str [],.str ([dE (q%10)]++s)],lo,[],[]⟩,wr⟩:=fun lo wr=>
     da ⟨20-(j+1),by omega,j+1,lo,wr,by
      rw[←ef,←eq];rfl,rfl,by omega,hb'⟩
    unfold Ec;exact gg9
  . have h0:n/10^j=0:=(Nat.eq_zero_or_pos _).resolve_right fun h=>hgo (.inl h)
    rw[h0];have hlt:n<10^j:=by
     refine Nat.lt_of_not_le fun h=>?_
     have:=Nat.div_pos h (Nat.pow_pos (by decide));omega
    have hk:j=L\/10^(j-1)<=n:=by omega
    unfold Ec;repeat' first|apply aap|apply aM|apply aaF|apply aaY|apply abu|apply afA|apply iy|apply fy|apply jS|(apply abF;rfl)|(apply aeP;rfl)|(apply ada;rfl;rfl)|(apply adU;rfl;rfl)|(apply adM;rfl;rfl)|(apply aab;rfl;rfl)|(apply aaZ;rfl;rfl)|(intro _;omega)|intro _
    all_goals try omega
    all_goals exact⟨.inr rfl,rfl,_,rfl,j,by omega,hlt,hk,rfl,rfl⟩)
 exact⟨k,h1,h2,h3,hr⟩
theorem ady (hft:M.FT=FT)(n:Nat)(hn:n<9223372036854775808):aT M 117 [.iV (n:Nat),.iV 1] [] ⟨.str (aR n),[],[]⟩:=by
 obtain⟨k,h1,h2,h3,hr⟩:=MO hft n 1 (by omega) (by decide);obtain⟨k,rfl⟩:∃j,k=j+1:=⟨k-1,by omega⟩;rw[Nat.add_sub_cancel]at h3;rw[wG h2 (by omega)];exact hr
theorem adz (hft:M.FT=FT)(n:Nat)(hn:n<1000000000):aT M 117 [.iV (n:Nat),.iV 9] [] ⟨.str (cE 9 n),[],[]⟩:=by
 obtain⟨k,h1,h2,h3,hr⟩:=MO hft n 9 (by omega) (by decide);have:k=9:=by
  rcases h3 with h|h
  . exact h
  . refine Nat.le_antisymm (Nat.le_of_not_lt fun h9=>?_) h1;have p:(10:Nat)^9<=10^(k-1):=Nat.pow_le_pow_right (by decide) (by omega);have e:(10:Nat)^9=1000000000:=rfl;omega
 subst this;exact hr
structure MP (M:ax):Prop where
 ft:M.FT=FT
 MQ:∀(n:Nat) h,n<1000000000->M.ext 117 [.iV (n:Nat),.iV 1] h=some ⟨.str (aR n),h,[]⟩
 MR:∀(n:Nat) h,n<1000000000->M.ext 117 [.iV (n:Nat),.iV 9] h=some ⟨.str (cE 9 n),h,[]⟩
theorem MS {x:Int}(h:0<=x/\x<1000000000):∃n:Nat,x=(n:Int)/\n<1000000000:=⟨x.toNat,by omega,by omega⟩
theorem adA (C:MP M){a:AV}{z:Int}(ha:cG a z)(lz:ak z<dB^N)(hN:N<=100000):aT M 138 [a] [] ⟨.str (bL z),[],[]⟩:=by
 obtain⟨neg,x,l,rfl,hx,ok,nr,ll,hz,hv,hnn⟩:=ha.abs lz;by_cases h0:l=[]
 . subst h0;have hneg:neg=false:=by
    cases neg with
    | false=>rfl
    | true=>exact absurd rfl (hnn rfl)
   subst hneg;have z0:z=0:=by rw[hz];rfl
   subst z0;have e0:bL 0=[48]:=by rw[ku (by decide)];exact gN (by decide)
   rw[e0];refine bH (by rw[C.ft];exact MJ) (by simp) ?_;have hl0:([]:List Int).length=0:=rfl;unfold Ed;simp only[enter];rcases hx with rfl|⟨rfl,_⟩;all_goals
   . exact gg5
 . obtain rfl:x = .vs (aj l) l.length none:=hx.resolve_right fun h=>h0 h.2
   have hl0:0<l.length:=List.length_pos_iff.2 h0;have hzs:bL z=(if neg then 45::aR (WV dB l).toNat else aR (WV dB l).toNat):=by
    have hp:=(iu (b:=dB) (by decide) ok nr).2 h0;rw[hz];cases neg with
    | false=>
     have e:bO false (WV dB l)=WV dB l:=rfl;rw[e,ku (by omega),cV (by omega)];rfl
    | true=>
     have e:bO true (WV dB l) = -WV dB l:=rfl;rw[e,mN (by omega),iW,cV (by omega)];rfl
   have dlen:∀k,k<=l.length->(aR (WV dB (l.drop (l.length-k))).toNat).length<=9*k+1:=fun k hk=>by
    refine ox (k:=9*k+1) ?_ (by omega);have h1:=dr (b:=dB) (by decide) (iR ok (l.length-k));have h2:=cn (b:=dB) (by decide) (iR ok (l.length-k));rw[List.length_drop,show l.length-(l.length-k)=k by omega,←Mc]at h1;have:(10:Nat)^(9*k+1)=10^(9*k)*10:=Nat.pow_succ ..;omega
   have hlast:=(rN hl0).1 nr;have gl:=bY ok (i:=l.length-1) (by omega);have gl:0<=l[l.length-1]! /\ l[l.length-1]! < 1000000000:=gl;obtain⟨n0,hn0,hn0l⟩:=MS gl;have eIl:(((l.length:Int))-1).toNat=l.length-1:=by omega
   have q1:∀h,M.ext 117 [.iV l[(((l.length:Int))-1).toNat]!,.iV 1] h=some ⟨.str (aR n0),h,[]⟩:=fun h=>by rw[eIl,hn0];exact C.MQ n0 h hn0l
   have ed0:(WV dB (l.drop (l.length-1))).toNat=n0:=by
    rw[List.drop_eq_getElem_cons (show l.length-1<l.length by omega),show l.length-1+1=l.length by omega,List.drop_length,←getElem!_pos l (l.length-1) (by omega),hn0];simp[WV]
   refine bH (by rw[C.ft];exact MJ) (by simp) ?_;unfold Ed;simp only[enter];refine gg6 ?_;refine W.fE (fun m st=>∃k lo wr,st=⟨⟨[.agg [.bool neg,.vs (aj l) l.length none],.ptr 0 0,.str [],.str (aR (WV dB (l.drop (l.length-k))).toNat),.iV ((l.length:Int)-1-(k:Nat))],lo,[some (.cells [.bool neg,.vs (aj l) l.length none] 162)],[]⟩,wr⟩/\m=l.length-k/\1<=k/\k<=l.length) (fun m st ⟨k,lo,wr,hst,hm,hk1,hk⟩=>?_) (m:=l.length-1) ⟨1,_,_,by rw[ed0,show (l.length:Int)-1-((1:Nat):Int)=(l.length:Int)-2 by omega];rfl,rfl,by omega,by omega⟩;subst hst;have dk:=dlen k hk;by_cases hend:k=l.length
   . subst hend;have e0:l.drop (l.length-l.length)=l:=by rw[Nat.sub_self,List.drop_zero]
     rw[e0]at dk ⊢;have l45:([45]:an).length=1:=rfl;rw[hzs];generalize aR (WV dB l).toNat=s0 at *
     cases neg with
     | true=>
      unfold yi;exact gg9
     | false=>
      unfold yi;exact gg9
   . have gi:=bY ok (i:=l.length-1-k) (by omega);have gi:0<=l[l.length-1-k]! /\ l[l.length-1-k]! < 1000000000:=gi;obtain⟨ni,hni,hnil⟩:=MS gi;have eIi:(((l.length:Int))-1-(k:Nat)).toNat=l.length-1-k:=by omega
     have q2:∀h,M.ext 117 [.iV l[(((l.length:Int))-1-(k:Nat)).toNat]!,.iV 9] h=some ⟨.str (cE 9 ni),h,[]⟩:=fun h=>by rw[eIi,hni];exact C.MR ni h hnil
     have hnext:aR (WV dB (l.drop (l.length-(k+1)))).toNat=aR (WV dB (l.drop (l.length-k))).toNat++cE 9 ni:=by
      have e1:l.drop (l.length-(k+1))=(ni:Int)::l.drop (l.length-k):=by
       rw[List.drop_eq_getElem_cons (show l.length-(k+1)<l.length by omega),←getElem!_pos l (l.length-(k+1)) (by omega),show l.length-(k+1)=l.length-1-k by omega,hni,show l.length-1-k+1=l.length-k by omega]
      have h0:=cn (b:=dB) (by decide) (iR ok (l.length-k));have hp:0<WV dB (l.drop (l.length-k)):=by
       refine(iu (b:=dB) (by decide) (iR ok _) ?_).2 (fun e=>?_)
       . refine(rN (by rw[List.length_drop];omega)).2 ?_;rw[List.length_drop,List.getElem!_eq_getElem?_getD,List.getElem?_drop,show l.length-k+(l.length-(l.length-k)-1)=l.length-1 by omega,←List.getElem!_eq_getElem?_getD];exact hlast
       . have:=congrArg List.length e;rw[List.length_drop,List.length_nil]at this;omega
      obtain⟨A,hA⟩:∃A:Nat,WV dB (l.drop (l.length-k))=(A:Int):=⟨_,(Int.toNat_of_nonneg h0).symm⟩;have e2:WV dB ((ni:Int)::l.drop (l.length-k))=((A*10^9+ni:Nat):Int):=by
       show (ni:Int)+dB*WV dB (l.drop (l.length-k))=_;rw[hA];show (ni:Int)+1000000000*A=_;omega
      rw[e1,e2,hA,Int.toNat_natCast,Int.toNat_natCast];exact Cr (by omega) (by show ni<1000000000;exact hnil)
     have hl9:=ko 9 ni;generalize aR (WV dB (l.drop (l.length-k))).toNat=s0 at *
     generalize cE 9 ni=s9 at *
     have next:∀lo wr Q,LI (fun st=>∃m',m'<m/\∃k lo wr,st=⟨⟨[.agg [.bool neg,.vs (aj l) l.length none],.ptr 0 0,.str [],.str (aR (WV dB (l.drop (l.length-k))).toNat),.iV ((l.length:Int)-1-(k:Nat))],lo,[some (.cells [.bool neg,.vs (aj l) l.length none] 162)],[]⟩,wr⟩/\m'=l.length-k/\1<=k/\k<=l.length) Q .normal ⟨⟨[.agg [.bool neg,.vs (aj l) l.length none],.ptr 0 0,.str [],.str (s0++s9),.iV ((l.length:Int)-1-(k:Nat)-1)],lo,[some (.cells [.bool neg,.vs (aj l) l.length none] 162)],[]⟩,wr⟩:=fun lo wr Q=>
      da ⟨l.length-(k+1),by omega,k+1,lo,wr,by rw[hnext,show (l.length:Int)-1-((k+1:Nat):Int)=(l.length:Int)-1-(k:Nat)-1 by omega],rfl,by omega,by omega⟩
     unfold yi;exact gg2
end Go.Ab.Ch1

/-
  Own work: the reference's integers: machine integers; divisions of nil; greatest common divisors.
-/
namespace Go.Ab.Ch1
open Go.Ab.aY
variable {M:ax} {cap c1 c2:Option Nat} {N:Nat}
section
variable {t:Nat} {x y:aL} {l:List aU} {pe:List AV} {lo:List (Nat×AV)} {hp:ab} {df wr:List Nat} {v a d:Int} {Q:ao->Prop}
theorem agp (hx:(St.mk pe lo hp df).aa x=some (.iV a))(hy:(St.mk pe lo hp df).aa y=some (.iV d))(ha : -9223372036854775808<=a/\a<9223372036854775808)(hd:0<d)(hv:a.tdiv d=v)
 (h:WO M l ⟨⟨pe,(t,.iV v)::lo,hp,df⟩,wr⟩ Q):WO M (⟨.l t,.bin .quo x y,none⟩::l) ⟨⟨pe,lo,hp,df⟩,wr⟩ Q:=afY hx hy hd ha (by rw[hv];exact h)
theorem agC (hx:(St.mk pe lo hp df).aa x=some (.iV a))(hy:(St.mk pe lo hp df).aa y=some (.iV d))(hd:0<d)(hv:a.tmod d=v)
 (h:WO M l ⟨⟨pe,(t,.iV v)::lo,hp,df⟩,wr⟩ Q):WO M (⟨.l t,.bin .rem x y,none⟩::l) ⟨⟨pe,lo,hp,df⟩,wr⟩ Q:=afZ hx hy (by omega) (by rw[hv];exact h)
end
theorem adB {neg:Bool}{m:Int}(h:0<=m):(bO neg m).tmod 1000000000=bO neg (m%1000000000):=by
 cases neg with
 | false=>exact Int.tmod_eq_emod_of_nonneg h
 | true=>show (-m).tmod _=_;rw[Int.neg_tmod,Int.tmod_eq_emod_of_nonneg h];rfl
theorem adC {neg:Bool}{m:Int}(h:0<=m):(bO neg m).tdiv 1000000000=bO neg (m/1000000000):=by
 cases neg with
 | false=>exact Int.tdiv_eq_ediv_of_nonneg h
 | true=>show (-m).tdiv _=_;rw[Int.neg_tdiv,Int.tdiv_eq_ediv_of_nonneg h];rfl
theorem adD (hft:M.FT=FT)(dK:∀ars h,M.ext 242 ars h=none)(neg:Bool)(K:ab):aT M 196 [.bool neg,.ae] K ⟨.agg [.bool false,.ae],K,[]⟩:=by
 have q1:=fun K=>CT.run (fi:=[]) (ca:=[]) (ars:=[.ae]) (dK _ _) (Eh hft K)
 refine lf (by rw[hft];exact xM) (by simp) (by simp[AV.top,bk]) ?_;unfold sV;simp only[enter];cases neg with
 | false=>
  exact gg1
 | true=>
  exact gg1
structure CWh (M:ax):Prop where
 ft:M.FT=FT
 dK:∀ars h,M.ext 242 ars h=none
 td:∀ars h,M.ext 196 ars h=none
theorem MT:(dB:Int)^3=1000000000000000000000000000:=by decide
theorem adF (C:CWh M)(n:Int)(hn : -9223372036854775808<=n/\n<9223372036854775808):∃v0,cG v0 n/\cK M 139 [.iV n] v0:=by
 obtain⟨neg,m0,hm0,rfl,hneg⟩:∃(neg:Bool) (m:Int),0<=m/\n=bO neg m/\neg=decide (n<0):=by
  by_cases h:n<0
  . exact⟨true,-n,by omega,by show n = - -n;omega,(decide_eq_true h).symm⟩
  . exact⟨false,n,by omega,rfl,(decide_eq_false h).symm⟩
 have hmb:m0<=9223372036854775808:=by cases neg <;> simp[bO]at hn <;> omega
 obtain⟨v,hh,⟨v0,h0,ho⟩,hr⟩:=fZ (M:=M) (f:=139) (ars:=[.iV (bO neg m0)]) (P:=fun v hh=>∃v0,cG v0 (bO neg m0)/\fa v hh v0) (by rw[C.ft];exact abQ) (by simp) (by
  have start:∀(Q:Ex->ao->Prop),(∀lo wr,W M (.loop qy) ⟨⟨[.iV (bO neg m0),.ptr 0 0,.ae,.bool neg,cB],lo,[some (.cells [.bool false,.ae] 162)],[]⟩,wr⟩ (BQ 0 (SQ M (zR [zm 22 3,
   zm 23 2,
   z2 24 196 22 23,
   zs 2 1 24]
   (.ret)) Q)))->W M Dz ⟨⟨[.iV (bO neg m0),cB,cB,cB,cB],[],[],[]⟩,[]⟩ Q:=fun Q hQ=>by
   unfold Dz;cases neg with
   | true=>
    have h1:bO true m0<0:=of_decide_eq_true hneg.symm;generalize bO true m0=z at *
    exact gg16
   | false=>
    have h1:¬bO false m0<0:=of_decide_eq_false hneg.symm;generalize bO false m0=z at *
    exact gg16
  simp only[enter];refine start _ fun lo wr=>?_
  refine W.fE (fun k st=>∃m acc o a4 K lo wr,st=⟨⟨[.iV (bO neg m),.ptr 0 0,o,.bool neg,a4],lo,K,[]⟩,wr⟩/\0<=m/\k=m.toNat/\m<=m0/\(acc=[]->o = .ae)/\acc.length<=3/\m<dB^(3-acc.length)/\okW dB acc/\WV dB acc+dB^acc.length*m=m0/\cz iC 1 3 K o acc [0]/\K.at 0=some (.cells [.bool false,.ae] 162))
   (fun k st ⟨m,acc,o,a4,K,lo,wr,hst,hm,hk,hmx,hnil,hla,hlt,oA,hv,ho,hK⟩=>?_) (m:=m0.toNat) ⟨m0,[],.ae,_,_,_,_,rfl,hm0,rfl,Int.le_refl _,fun _=>rfl,by simp,by show m0<dB^3;rw[MT];omega,ij,by simp[WV],.nM,rfl⟩
  subst hst;have hK1:=eo hK;by_cases hz:m=0
  . subst hz;have e0:bO neg 0=0:=by cases neg <;> rfl
    rw[e0];rw[Int.mul_zero,Int.add_zero]at hv;rcases ho with ⟨rfl,rfl⟩|⟨c,cp,hc0,rfl,hc,hcap⟩
    . have q:=fun K=>CT.run (fi:=[]) (ca:=[]) (ars:=[.bool neg,.ae]) (C.td _ _) (adD C.ft C.dK neg K)
      have z0:m0=0:=by rw[←hv];rfl
      subst z0;have out:∃v0,cG v0 (bO neg 0)/\∀hh,fa (.agg [.bool false,.ae]) hh v0:=⟨_,⟨false,.ae,[],rfl,.inr ⟨rfl,rfl⟩,ij,jy,by rw[e0];rfl,fun h=>by cases h⟩,fun hh=>.same rfl rfl⟩;obtain⟨v0,k0,out⟩:=out;unfold qy;exact gg8
    . have hpos:0<acc.length\/acc.length=0:=by omega
      rcases hpos with hp|hp
      . obtain rfl:cp=none:=hcap.resolve_right fun h=>by rw[h.1]at hp;simp at hp
        have q196:=CT.run (fi:=[]) (ca:=[]) (ars:=[.bool neg,.sl c 0 acc.length 1 none]) (C.td _ _) (Mb (cap:=none) C.ft C.dK neg hc hp (Nat.le_refl _) (by omega) (fun _ h=>by cases h));have hcn:c≠0:=fun e=>hc0 (by simp[e])
        obtain⟨v0,k0,o0⟩:=Md (K:=K.put 0 (some (.cells [.bool (neg && decide (0<aN (acc.take acc.length))),bz c (aN (acc.take acc.length)) none] 162))) (neg:=neg) (pH hcn hc) oA;have k0:=k0.tc;rw[hv]at k0;have hone:cS (bz c (aN (acc.take acc.length)) none)=true:=by unfold bz;split <;> rfl
        unfold qy;exact gg8
      . have ha:acc=[]:=List.eq_nil_of_length_eq_zero hp;have:=hnil ha;cases this
  . have hm1:1<=m:=by omega
    have hl2:acc.length<=2:=by
     refine Nat.le_of_not_lt fun h=>?_
     have:acc.length=3:=by omega
     rw[this]at hlt;simp at hlt;omega
    have hmod:=adB (neg:=neg) hm;have hdiv:=adC (neg:=neg) hm;obtain⟨r,hr⟩:∃r,r=m%1000000000:=⟨_,rfl⟩;obtain⟨q,hq⟩:∃q,q=m/1000000000:=⟨_,rfl⟩;rw[←hr]at hmod;rw[←hq]at hdiv;have hroom:(acc.length+1)*8<=dD:=by unfold dD;omega
    have hnz:bO neg m≠0:=by cases neg <;> simp[bO] <;> omega
    have hrange : -9223372036854775808<=bO neg m/\bO neg m<9223372036854775808:=by
     cases neg <;> simp[bO]at hn ⊢ <;> omega
    have next:∀(o':AV) H a4 lo wr Q,cz iC 1 3 H o' (acc++[r]) [0]->H.at 0=some (.cells [.bool false,.ae] 162)->LI (fun st=>∃k',k'<k/\∃m acc o a4 K lo wr,st=⟨⟨[.iV (bO neg m),.ptr 0 0,o,.bool neg,a4],lo,K,[]⟩,wr⟩/\0<=m/\k'=m.toNat/\m<=m0/\(acc=[]->o = .ae)/\acc.length<=3/\m<dB^(3-acc.length)/\okW dB acc/\WV dB acc+dB^acc.length*m=m0/\cz iC 1 3 K o acc [0]/\K.at 0=some (.cells [.bool false,.ae] 162)) Q .normal ⟨⟨[.iV (bO neg q),.ptr 0 0,o',.bool neg,a4],lo,H,[]⟩,wr⟩:=fun o' H a4 lo wr Q ho' hH=>
     da ⟨q.toNat,by omega,q,acc++[r],o',a4,H,lo,wr,rfl,by omega,rfl,by omega,fun h=>by simp at h,by simp;omega,by
      have e:dB^(3-acc.length)=dB^(3-(acc++[r]).length)*dB:=by
       rw[←Int.pow_succ,List.length_append,List.length_singleton];congr 1;omega
      rw[e]at hlt;rw[hq];exact Int.ediv_lt_of_lt_mul (by decide) hlt,jg oA (fun z hz=>by rw[List.mem_singleton.1 hz];exact⟨by omega,by show _<(1000000000:Int);omega⟩),by
      rw[fF,List.length_append,List.length_singleton,Int.pow_succ,←hv];have e1:WV dB [r]=r:=by simp[WV]
      have e2:m=r+1000000000*q:=by omega
      rw[e1,e2];show WV dB acc+dB^acc.length*r+dB^acc.length*1000000000*q=_;grind,ho',hH⟩
    have hr9:0<=r/\r<1000000000:=by omega
    have fin:∀rv,rv=r->∀(o':AV) H a4 lo wr Q,cz iC 1 3 H o' (acc++[rv]) [0]->H.at 0=some (.cells [.bool false,.ae] 162)->LI (fun st=>∃k',k'<k/\∃m acc o a4 K lo wr,st=⟨⟨[.iV (bO neg m),.ptr 0 0,o,.bool neg,a4],lo,K,[]⟩,wr⟩/\0<=m/\k'=m.toNat/\m<=m0/\(acc=[]->o = .ae)/\acc.length<=3/\m<dB^(3-acc.length)/\okW dB acc/\WV dB acc+dB^acc.length*m=m0/\cz iC 1 3 K o acc [0]/\K.at 0=some (.cells [.bool false,.ae] 162)) Q .normal ⟨⟨[.iV (bO neg q),.ptr 0 0,o',.bool neg,a4],lo,H,[]⟩,wr⟩:=fun rv e=>by subst e;exact next
    clear next
    obtain⟨d,hd⟩:∃d,d=bO neg r:=⟨_,rfl⟩;rw[←hd]at hmod;by_cases hdn:d<0
    . have e:0-d=r:=by cases neg <;> simp[bO]at hd <;> omega
      unfold qy;exact gg7
    . have e:d=r:=by cases neg <;> simp[bO]at hd <;> omega
      unfold qy;repeat' first|(apply agC (v:=d);rfl;rfl;omega;exact hmod)|(apply agp (v:=bO neg q);rfl;rfl;exact hrange;omega;exact hdiv)|(refine cz.app (f:=iC) (m:=[d]) (S:=[0]) (fun _=>rfl) (fun _=>rfl) (by decide) (ho.grow [_]) (by simp) rfl rfl (Sl.iJ (f:=iC) (esz:=1) (l:=[d]) (e:=3) (fun _=>rfl) bW rfl) hroom (fun H w' o' ho' hk hlen=>?_))|apply aap|apply aM|apply aaF|apply aaY|apply acS|apply abJ|apply cX|(apply abz;rfl)|(apply abF;rfl)|(apply ada;rfl;rfl)|(apply aef;rfl;rfl)|(apply acb;rfl;rfl;rfl)|(apply aab;rfl;rfl)|(apply aaZ;rfl;rfl)|(intro _;omega)|intro _
      all_goals try omega
      all_goals exact fin _ e _ _ _ _ _ _ ho' (hk 0 _ (by simp) (bT hK)))
 exact⟨v0,h0,v,hh,ho,hr⟩
end Go.Ab.Ch1

/-
  Own work: the reference's integers: divisions of nil; greatest common divisors; parts; fractions.
-/
namespace Go.Ab.Ch1
open Go.Ab.aY
variable {M:ax} {cap c1 c2:Option Nat} {N:Nat}
theorem adG (hft:M.FT=FT)(b:List Int)(q218:∀h,M.ext 218 [.ae,.vs (aj b) b.length c2] h=some ⟨.iV (-1),h,[]⟩):aT M 195 [.ae,.vs (aj b) b.length c2] [] ⟨.aq [.ae,.ae],[],[]⟩:=by
 refine bH (by rw[hft];exact LN) (by simp) ?_;unfold DB;simp only[enter];exact gg0
structure MU (M:ax):Prop where
 ft:M.FT=FT
 ja:∀(x:AV) (a b:List Int),cm x a->okW dB a->okW dB b->az a->az b->a.length<100000->b.length<100000->b≠[]->∃qv q rv r,cm qv q/\cm rv r/\okW dB q/\az q/\okW dB r/\az r/\WV dB q=WV dB a/WV dB b/\WV dB r=WV dB a%WV dB b/\∀h,M.ext 195 [x,.vs (aj b) b.length none] h=some ⟨.aq [qv,rv],h,[]⟩
theorem adH (C:MU M){x y:AV}(a b:List Int)(hx:cm x a)(hy:cm y b)(oa:okW dB a)(ob:okW dB b)(na:az a)(nb:az b)(la:a.length<100000)(lb:b.length<100000) :
 ∃gv g,cm gv g/\okW dB g/\az g/\WV dB g=(Int.gcd (WV dB a) (WV dB b):Nat)/\g.length<100000/\cK M 155 [x,y] gv:=by
 obtain⟨v,hh,⟨gv,g,ig,og,ng,vg,lg,ho⟩,hr⟩:=fZ (M:=M) (f:=155) (ars:=[x,y]) (P:=fun v hh=>∃gv g,cm gv g/\okW dB g/\az g/\WV dB g=(Int.gcd (WV dB a) (WV dB b):Nat)/\g.length<100000/\fa v hh gv) (by rw[C.ft];exact LM) (by simp) (by
  unfold DA;simp only[enter];refine gg3 ?_;refine W.fE (fun m st=>∃A B xA y a3 lo wr,st=⟨⟨[xA,y,.ae,a3],lo,[],[]⟩,wr⟩/\cm xA A/\cm y B/\m=(WV dB B).toNat/\okW dB A/\az A/\A.length<100000/\okW dB B/\az B/\B.length<100000/\Int.gcd (WV dB A) (WV dB B)=Int.gcd (WV dB a) (WV dB b))
   (fun m st ⟨A,B,xA,y,a3,lo,wr,hst,hxA,hy,hm,oA,nA,lA,oB,nB,lB,hg⟩=>?_) (m:=(WV dB b).toNat) ⟨a,b,x,y,_,_,_,rfl,hx,hy,rfl,oa,na,la,ob,nb,lb,rfl⟩
  subst hst;by_cases hB:B=[]
  . subst hB;have hl0:([]:List Int).length=0:=rfl;obtain⟨_,t1,k1⟩:=tf xA hxA;have fin:fa (aV [xA]) (if (aV [xA]).top<=0 then [] else []) xA:=.same t1 k1;have hv:WV dB A=(Int.gcd (WV dB a) (WV dB b):Nat):=by
     rw[←hg];have:=cn (b:=dB) (by decide) oA;show WV dB A=(Int.gcd (WV dB A) 0:Nat);rw[Int.gcd_zero_right];omega
    rcases hy with rfl|⟨rfl,_⟩;all_goals
    . unfold sX;exact gg9
  . obtain rfl:y = .vs (aj B) B.length none:=hy.resolve_right fun h=>hB h.2
    have hBl:0<B.length:=List.length_pos_iff.2 hB;have hBp:=(iu (b:=dB) (by decide) oB nB).2 hB;have hA0:=cn (b:=dB) (by decide) oA;obtain⟨qv,q,rv,r,hq,hr,_,_,or_,nr,vq,vr,q195⟩:=C.ja xA A B hxA oA oB nA nB lA lB hB;have r1:=Int.emod_lt_of_pos (WV dB A) hBp;have r0:=Int.emod_nonneg (WV dB A) (show WV dB B≠0 by omega);have lr:r.length<=B.length:=fQ (b:=dB) (by decide) or_ nr (Int.lt_trans (by rw[vr];exact r1) (dr (by decide) oB));have hg2:Int.gcd (WV dB B) (WV dB r)=Int.gcd (WV dB a) (WV dB b):=by
     rw[←hg,vr,BW]
    unfold sX;repeat' first|apply aap|apply aM|apply aaF|apply aaY|apply acS|apply abJ|apply cX|(apply abz;rfl)|(apply adU;rfl;rfl)|(apply abD;rfl;rfl;first|exact q195 _)|(apply aab;rfl;rfl)|(apply aaZ;rfl;rfl)|(intro _;omega)|intro _
    all_goals try omega
    all_goals exact da ⟨(WV dB r).toNat,by rw[vr];omega,B,r,_,rv,_,_,_,rfl,.inl rfl,hr,rfl,oB,nB,lB,or_,nr,by omega,hg2⟩)
 exact⟨gv,g,ig,og,ng,vg,lg,v,hh,ho,hr⟩
theorem adI (hft:M.FT=FT)(s:an)(hl:s.length<1000000)(hb:js s=false)(q153:∀h,M.ext 153 [.str s] h=some ⟨.iV (cw s),h,[]⟩){v1 v2:AV}{z1 z2:Int}(k1:cG v1 z1)(k2:cG v2 z2)(qa:∀h,M.ext 193 [.str s] h=some ⟨v1,h,[]⟩)(qb:∀h,M.ext 139 [.iV 1] h=some ⟨v2,h,[]⟩):cK M 135 [.str s] (.aq [v1,v2]):=by
 have hk:cw s=s.length:=by
  unfold cw;have hn:(bE 47 s).2=none:=by
   unfold js at hb;cases h:(bE 47 s).2 with
   | none=>rfl
   | some y=>rw[h]at hb;cases hb
  rw[(mP hn).1]
 rw[hk]at q153;obtain⟨n1,x1,l1,rfl,_,o1,t1,b1⟩:=k1.shape;obtain⟨n2,x2,l2,rfl,_,o2,t2,b2⟩:=k2.shape;refine cI (by rw[hft];exact LJ) (by simp) ?_;unfold Dy;simp only[enter];repeat' first|(apply ade;rfl;rfl;rfl;exact⟨rfl,Nat.le_refl _,by first|exact jT o1|exact jT o2⟩;rfl)|apply aap|apply aM|apply aaF|apply aaY|apply abu|apply bZ|(apply abz;rfl)|(apply adE;rfl;rfl)|(apply abD;rfl;rfl;first|exact q153 _|exact qa _|exact qb _)|(apply acK;rfl;rfl;rfl)|(apply aab;rfl;rfl)|(apply aaZ;rfl;rfl)|(intro _;omega)|intro _
 all_goals try omega
 refine cD rfl rfl (.same ?_ ?_)
 . show max (max 0 (max x1.top 0)) (max (max 0 (max x2.top 0)) 0)=0;rw[t1,t2];rfl
 . show AV.aq [.agg [.bool n1,bK x1],.agg [.bool n2,bK x2]]=_;rw[b1,b2]
end Go.Ab.Ch1

/-
  Own work: the reference's fractions: made of two integers.
-/
namespace Go.Ab.Ch1
open Go.Ab.aY
variable {M:ax} {cap c1 c2:Option Nat} {N:Nat}
structure yk (M:ax)(N:Nat):Prop where
 ft:M.FT=FT
 yl:∀{a z},cG a z->ak z<dB^N->∃v0,cG v0 (-z)/\∀h,M.ext 194 [a] h=some ⟨v0,h,[]⟩
 qA:∀{x y:AV} (a b:List Int),cm x a->cm y b->okW dB a->okW dB b->az a->az b->a.length<100000->b.length<100000->∃gv g,cm gv g/\okW dB g/\az g/\WV dB g=(Int.gcd (WV dB a) (WV dB b):Nat)/\g.length<100000/\∀h,M.ext 155 [x,y] h=some ⟨gv,h,[]⟩
 ja:∀(x:AV) (a b:List Int),cm x a->okW dB a->okW dB b->az a->az b->a.length<100000->b.length<100000->b≠[]->∃qv q rv r,cm qv q/\cm rv r/\okW dB q/\az q/\okW dB r/\az r/\WV dB q=WV dB a/WV dB b/\WV dB r=WV dB a%WV dB b/\∀h,M.ext 195 [x,.vs (aj b) b.length none] h=some ⟨.aq [qv,rv],h,[]⟩
 jN:∀neg x l,cm x l->okW dB l->l.length<1000000000->∃v0,cG v0 (bO neg (WV dB l))/\∀h,M.ext 196 [.bool neg,x] h=some ⟨v0,h,[]⟩
 yn:∀{a z} h,cG a z->ak z<dB^N->M.ext 138 [a] h=some ⟨.str (bL z),h,[]⟩
def Ek (res:List ew)(r:AV)(e:Ex)(s:ao):Prop:=(e = .normal\/e = .ret)/\s.s.bX=[]/\∃vs,de s.s res=some vs/\aV vs=r/\(if r.top<=0 then [] else s.s.hp)=[]
theorem El {neg:Bool}{z:Int}(h:0<=z):ak (bO neg z)=z:=by
 unfold ak bO;cases neg <;> simp <;> omega
theorem Em {z:Int}(h:0<=z):bL z=aR z.toNat:=if_neg (by omega)
theorem adJ {neg:Bool}{a b:Int}(hb:0<b):(Rat.divInt (bO neg a) b).num=bO neg (a/(Int.gcd a b:Nat))/\((Rat.divInt (bO neg a) b).den:Int)=b/(Int.gcd a b:Nat):=by
 obtain⟨k1,k2,e1,e2,e3,e4⟩:=vB (n:=bO neg a) hb;have hg:Int.gcd (bO neg a) b=Int.gcd a b:=by cases neg <;> simp[bO]
 rw[hg]at e1 e2;have g0:((Int.gcd a b:Nat):Int)≠0:=by
  have:=Int.gcd_pos_of_ne_zero_right a (show b≠0 by omega);omega
 rw[e3,e4];constructor
 . cases neg with
   | false=>
    have e1:a=(Int.gcd a b:Nat)*k1:=e1;show k1=a/_;exact(Int.ediv_eq_of_eq_mul_right g0 e1).symm
   | true=>
    have e1 : -a=(Int.gcd a b:Nat)*k1:=e1;show k1 = -(a/_);rw[Int.ediv_eq_of_eq_mul_right g0 (show a=(Int.gcd a b:Nat)*(-k1) by rw[Int.mul_neg,←e1];omega)];omega
 . exact(Int.ediv_eq_of_eq_mul_right g0 e2).symm
theorem Fg (C:yk M N)(hN:N<100000){neg:Bool}{x y:AV}{l m:List Int}(hx:cm x l)(hy:cm y m)(ol:okW dB l)(om:okW dB m)(nl:az l)(nm:az m)(ll:l.length<=N)(lm:m.length<=N)(hm:m≠[])(a0 a1 a5 a6 a7 a8:AV)(lo:List (Nat×AV))(wr:List Nat) :
 W M t136 ⟨⟨[a0,a1,.ptr 0 0,.ptr 1 0,.str [],a5,a6,a7,a8],lo,[some (.cells [.bool neg,x] 162),some (.cells [.bool false,y] 162)],[]⟩,wr⟩ (Ek [.var (.p 4)] (.str (aQ (Rat.divInt (bO neg (WV dB l)) (WV dB m))))):=by
 have m0:=(iu (b:=dB) (by decide) om nm).2 hm;have l0:=cn (b:=dB) (by decide) ol;obtain⟨en,ed⟩:=adJ (neg:=neg) (a:=WV dB l) m0;obtain⟨gv,g,hg,og,ng,vg,lg,q155⟩:=C.qA l m hx hy ol om nl nm (by omega) (by omega);have g0:0<WV dB g:=by
  rw[vg];have:=Int.gcd_pos_of_ne_zero_right (WV dB l) (show WV dB m≠0 by omega);omega
 have hg1:g≠[]:=(iu (b:=dB) (by decide) og ng).1 g0;obtain rfl:gv = .vs (aj g) g.length none:=hg.resolve_right fun h=>hg1 h.2
 obtain⟨pv,p,_,_,hp,_,op,np,_,_,vp,_,qa⟩:=C.ja x l g hx ol og nl ng (by omega) lg hg1;obtain⟨qv,q,_,_,hq,_,oq,nq,_,_,vq,_,qb⟩:=C.ja y m g hy om og nm ng (by omega) lg hg1;rw[vg]at vp vq;rw[←vp]at en;rw[←vq]at ed;have lw:∀{r:List Int},r.length<=N->okW dB r->WV dB r<dB^N:=fun h o=>Int.lt_of_lt_of_le (dr (by decide) o) (gJ (by decide) h)
 have le_div:∀{a b:Int},0<=a->0<b->a/b<=a:=fun h1 h2=>Int.ediv_le_self _ h1
 have p0:=cn (b:=dB) (by decide) op;have q0:=cn (b:=dB) (by decide) oq;have lp:WV dB p<dB^N:=Int.lt_of_le_of_lt (by rw[vp];exact Int.ediv_le_self _ l0) (lw ll ol);have lq:WV dB q<dB^N:=Int.lt_of_le_of_lt (by rw[vq];exact Int.ediv_le_self _ (Int.le_of_lt m0)) (lw lm om);have ln:=fQ (b:=dB) (by decide) op np lp;have lk:=fQ (b:=dB) (by decide) oq nq lq;obtain⟨v1,k1,q1⟩:=C.jN neg pv p hp op (by omega);have t1:=fun h=>C.yn h k1 (by rw[El p0];exact lp)
 obtain⟨v2,k2,q2⟩:=C.jN false qv q hq oq (by omega);have t2:=fun h=>C.yn h k2 (by rw[El q0];exact lq)
 rw[←en]at t1;rw[show bO false (WV dB q)=((Rat.divInt (bO neg (WV dB l)) (WV dB m)).den:Int) from ed.symm,Em (by omega),Int.toNat_natCast]at t2;have hd0:=(Rat.divInt (bO neg (WV dB l)) (WV dB m)).den_pos;have hq1:q≠[]:=fun h=>by subst h;simp[WV]at ed;omega
 obtain rfl:qv = .vs (aj q) q.length none:=hq.resolve_right fun h=>hq1 h.2
 have hs:aQ (Rat.divInt (bO neg (WV dB l)) (WV dB m))=if q=[1] then bL (Rat.divInt (bO neg (WV dB l)) (WV dB m)).num else bL (Rat.divInt (bO neg (WV dB l)) (WV dB m)).num++47::aR (Rat.divInt (bO neg (WV dB l)) (WV dB m)).den:=by
  have:=Mq oq nq;rw[←ed]at this;unfold aQ;by_cases h:q=[1]
  . rw[if_pos h,if_pos (by have:=this.2 h;omega)]
  . rw[if_neg h,if_neg (by intro h2;exact h (this.1 (by omega)))]
 rw[hs];have hN1:0<9*N:=by
  have:=List.length_pos_iff.2 hm;omega
 have e9:(dB:Int)^N=10^(9*N):=by rw[←Mc];exact Int.natCast_pow _ _
 have lA:=Lc hN1 (z:=(Rat.divInt (bO neg (WV dB l)) (WV dB m)).num) (by rw[en,El p0,←e9];exact lp);generalize bL (Rat.divInt (bO neg (WV dB l)) (WV dB m)).num=A at *
 have lB:(aR (Rat.divInt (bO neg (WV dB l)) (WV dB m)).den).length<2000000:=by
  have:=qx (k:=9*N) hN1 (z:=WV dB q) (by rw[cV q0,←e9];exact lq);rw[cV q0,←ed,Int.toNat_natCast]at this;omega
 generalize aR (Rat.divInt (bO neg (WV dB l)) (WV dB m)).den=B at *
 clear hs;have ap:A++47::B=A++[47]++B:=by simp
 unfold t136;have hcase:q=[1]\/q.length≠1\/q.length=1/\q[Int.toNat 0]! ≠ 1:=by
  match q,hq1 with
  | [x],_=>
   by_cases h:x=1
   . exact .inl (by rw[h])
   . exact .inr (.inr ⟨rfl,h⟩)
  | x::y::r,_=>exact .inr (.inl (by simp))
 rcases hcase with rfl|hc|⟨hc,hc2⟩
 . rw[if_pos rfl];have e1:([1]:List Int).length=1:=rfl;have e2:([1]:List Int)[Int.toNat 0]! = 1:=rfl;exact gg2
 . rw[if_neg (fun h=>hc (by rw[h];rfl)),ap];exact gg2
 . rw[if_neg (fun h=>hc2 (by rw[h];rfl)),ap];exact gg2
theorem adK (C:yk M N)(hN:N<100000){a b:AV}{za zb:Int}(ha:cG a za)(hb:cG b zb)(la:ak za<dB^N)(lb:ak zb<dB^N)(hz:zb≠0):aT M 136 [a,b] [] ⟨.str (aQ (Rat.divInt za zb)),[],[]⟩:=by
 have ha':=ha;have hb':=hb;obtain⟨na,x,l,rfl,hx,ol,nl,ll,ea,_,_⟩:=ha.abs la;obtain⟨nb,y,m,rfl,hy,om,nm,lm,eb,_,hn⟩:=hb.abs lb;have hm:m≠[]:=fun h=>by subst h;cases nb <;> simp[bO,WV]at eb <;> omega
 refine bH (by rw[C.ft];exact adk) (by simp) ?_;cases nb with
 | false=>
  rw[ea,show zb=WV dB m from eb];unfold Ee;simp only[enter];exact gg1
 | true=>
  obtain⟨v1,k1,q1⟩:=C.yl ha' la;obtain⟨v2,k2,q2⟩:=C.yl hb' lb;obtain⟨n1,x1,l1,rfl,hx1,ol1,nl1,ll1,ea1,_,_⟩:=k1.abs (N:=N) (by rw[iW];exact la);obtain⟨n2,x2,m1,rfl,hy1,om1,nm1,lm1,eb1,_,hn1⟩:=k2.abs (N:=N) (by rw[iW];exact lb);have o1:=(tf x1 hx1).1;have o2:=(tf x2 hy1).1;have m0:=(iu (b:=dB) (by decide) om nm).2 hm;have e2:zb = -WV dB m:=eb;have m1p:=cn (b:=dB) (by decide) om1;have hm1:m1≠[]:=fun h=>by subst h;cases n2 <;> simp[bO,WV]at eb1 <;> omega
  cases n2 with
  | true=>
   have : -zb = -WV dB m1:=eb1;omega
  | false=>
  rw[←Rat.neg_divInt_neg,ea1,show -zb=WV dB m1 from eb1];unfold Ee;simp only[enter];exact gg16
end Go.Ab.Ch1

/-
  Own work: the reference's fractions: of machine integers.
-/
namespace Go.Ab.Ch1
open Go.Ab.aY
variable {M:ax} {cap c1 c2:Option Nat} {N:Nat}
theorem adL (hft:M.FT=FT)(a b:Nat)(ha:a<9223372036854775808)(hb:b<9223372036854775808):aT M 158 [.iV a,.iV b] [] ⟨.iV (Nat.gcd a b:Nat),[],[]⟩:=by
 refine bH (by rw[hft];exact adi) (by simp) ?_;unfold MH;simp only[enter];refine gg3 ?_;refine W.fE (fun m st=>∃(A B:Nat) (lo:List (Nat×AV)) (wr:List Nat),st=⟨⟨[.iV A,.iV B,.iV 0],lo,[],[]⟩,wr⟩/\m=B/\A<9223372036854775808/\B<9223372036854775808/\Nat.gcd A B=Nat.gcd a b) (fun m st ⟨A,B,lo,wr,hst,hm,hA,hB,hg⟩=>?_) (m:=b) ⟨a,b,_,_,rfl,rfl,ha,hb,rfl⟩;subst hst;unfold MG;rcases Nat.eq_zero_or_pos B with rfl|hp
 . rw[Nat.gcd_zero_right]at hg;rw[←hg];exact gg9
 . have hlt:=Nat.mod_lt A hp;have hn:Nat.gcd B (A%B)=Nat.gcd a b:=by rw[←hg,Nat.gcd_comm A B,Nat.gcd_rec B A,Nat.gcd_comm]
   have e:((A:Int)%(B:Int))=((A%B:Nat):Int):=rfl;exact gg13
structure En (M:ax)(N:Nat):Prop extends yk M N where
 MV:∀(a b:Nat) h,a<9223372036854775808->b<9223372036854775808->M.ext 158 [.iV a,.iV b] h=some ⟨.iV (Nat.gcd a b:Nat),h,[]⟩
 Eo:∀(n:Nat) h,n<9223372036854775808->M.ext 117 [.iV (n:Nat),.iV 1] h=some ⟨.str (aR n),h,[]⟩
 Ep:∀n:Int,-9223372036854775808<=n/\n<9223372036854775808->∃v0,cG v0 n/\∀h,M.ext 139 [.iV n] h=some ⟨v0,h,[]⟩
 MW:∀{a b za zb} h,cG a za->cG b zb->ak za<dB^N->ak zb<dB^N->zb≠0->M.ext 136 [a,b] h=some ⟨.str (aQ (Rat.divInt za zb)),h,[]⟩
theorem yp (q:Rat):aQ q=(if q.num<0 then [45] else [])++aR q.num.natAbs++(if 1<q.den then 47::aR q.den else []):=by
 have:=q.den_pos;have e:bL q.num=(if q.num<0 then [45] else [])++aR q.num.natAbs:=by
  unfold bL;split
  . rw[show (-q.num).toNat=q.num.natAbs by omega];rfl
  . rw[show q.num.toNat=q.num.natAbs by omega];rfl
 unfold aQ;by_cases h:q.den=1
 . rw[if_pos h,if_neg (show ¬1<q.den by omega),e,List.append_nil]
 . rw[if_neg h,if_pos (show 1<q.den by omega),e]
theorem Fm (C:En M N){n d:Int}(hd:0<d/\d<=4000000000000000000)(hn : -4000000000000000000<=n/\n<=4000000000000000000)(a3 a4:AV)(lo:List (Nat×AV))(wr:List Nat) :
 W M t78 ⟨⟨[.iV n,.iV d,.str [],a3,a4],lo,[],[]⟩,wr⟩ (Ek [.var (.p 2)] (.str (aQ (Rat.divInt n d)))):=by
 obtain⟨k1,k2,e1,e2,e3,e4⟩:=vB (n:=n) hd.1;have g0:=Int.gcd_pos_of_ne_zero_right n (show d≠0 by omega);have eg:Nat.gcd n.natAbs d.natAbs=Int.gcd n d:=rfl;have q158:=fun h=>C.MV n.natAbs d.natAbs h (by omega) (by omega)
 rw[show ((d.natAbs:Nat):Int)=d by omega,eg]at q158;have hle:((Int.gcd n d:Nat):Int)<=d:=Int.le_of_dvd hd.1 (Int.gcd_dvd_right _ _);have hv1:n.tdiv (Int.gcd n d:Nat)=(Rat.divInt n d).num:=by
  rw[e3];conv=>lhs;arg 1;rw[e1]
  exact Int.mul_tdiv_cancel_left _ (by omega)
 have hv2:d.tdiv (Int.gcd n d:Nat)=((Rat.divInt n d).den:Int):=by
  rw[e4];conv=>lhs;arg 1;rw[e2]
  exact Int.mul_tdiv_cancel_left _ (by omega)
 have hs:=yp (Rat.divInt n d);have b1:(Rat.divInt n d).num.natAbs<=n.natAbs:=by
  rw[←hv1,Int.natAbs_tdiv];exact Nat.div_le_self _ _
 have b2:(Rat.divInt n d).den<=d.natAbs:=by
  have:=Int.natAbs_tdiv d (Int.gcd n d:Nat);rw[hv2,Int.natAbs_natCast]at this;rw[this];exact Nat.div_le_self _ _
 rw[hs];generalize (Rat.divInt n d).num=P at *
 generalize (Rat.divInt n d).den=D at *
 generalize Int.gcd n d=g at *
 have t1:=fun h=>C.Eo P.natAbs h (by omega)
 have t2:=fun h=>C.Eo D h (by omega)
 have l1:=ox (n:=P.natAbs) (k:=19) (Nat.lt_of_le_of_lt b1 (by rw[Ej];omega)) (by decide);have l2:=ox (n:=D) (k:=19) (Nat.lt_of_le_of_lt b2 (by rw[Ej];omega)) (by decide);generalize aR P.natAbs=A at *
 generalize aR D=B at *
 unfold t78;repeat' first|(apply afM (m:=(n.natAbs:Int));rfl;rfl;omega)|(apply afM (m:=(P.natAbs:Int));rfl;rfl;omega)|(apply agp;rfl;rfl;omega;omega;first|exact hv1|exact hv2)|apply aap|apply aM|apply aaF|apply aaY|apply abu|apply abJ|(apply afB;rfl)|(apply abz;rfl)|(apply abF;rfl)|(apply ada;rfl;rfl)|(apply adU;rfl;rfl)|(apply aes;rfl;rfl;omega)|(apply aga;rfl;rfl;first|omega|(simp only[List.length_append,List.length_cons,List.length_nil];omega)|(simp;omega))|(apply abD;rfl;rfl;first|exact q158 _|exact t1 _|exact t2 _)|(apply aab;rfl;rfl)|(apply aaZ;rfl;rfl)|(intro _;omega)|intro _
 all_goals try omega
 all_goals refine⟨.inr rfl,rfl,_,rfl,?_,rfl⟩
 all_goals
  rename_i u1 u2;first|rw[if_pos u1]|rw[if_neg (by omega)]
  first|rw[if_pos (by omega)]|rw[if_neg (by omega)]
  simp[aV]
theorem MX (hN:3<=N){n:Int}(h : -9223372036854775808<=n/\n<9223372036854775808):ak n<dB^N:=by
 have h1:ak n<dB^3:=by rw[MT];unfold ak;split <;> omega
 exact Int.lt_of_lt_of_le h1 (gJ (by decide) hN)
theorem w78 (C:En M N)(hN:3<=N){n d:Int}(hn : -9223372036854775808<=n/\n<9223372036854775808)(hd : -9223372036854775808<=d/\d<9223372036854775808)(h0:d≠0):aT M 78 [.iV n,.iV d] [] ⟨.str (aQ (Rat.divInt n d)),[],[]⟩:=by
 obtain⟨v1,k1,q1⟩:=C.Ep n hn;obtain⟨v2,k2,q2⟩:=C.Ep d hd;have q3:=fun h=>C.MW h k1 k2 (MX hN hn) (MX hN hd) h0
 refine bH (by rw[C.ft];exact adl) (by simp) ?_;show W M Ef _ (Ek _ _);unfold Ef;simp only[enter];by_cases hs:(-4000000000000000000<=n/\n<=4000000000000000000) /\ -4000000000000000000<=d/\d<=4000000000000000000
 . by_cases hp:0<d
   . exact gg7
   . rw[←Rat.neg_divInt_neg];have e1:0-n = -n:=by omega
     have e2:0-d = -d:=by omega
     have tl:=fun a3 a4 lo wr=>Fm C (n:=-n) (d:=-d) ⟨by omega,by omega⟩ ⟨by omega,by omega⟩ a3 a4 lo wr
     rw[←e1,←e2]at tl;rw[←e1,←e2];exact gg9
 . exact gg2
end Go.Ab.Ch1

/-
  Own work: the code of functions: numerators, denominators, large numbers.
-/
namespace Go.Ab.Ch1
set_option maxRecDepth 1000000
def MY:al:=zR [⟨.p 1,.mv (.c (.str [])),none⟩] (.seq (zR [zm 3 0,z1 4 140 3,zc 5 .lss 4 0] (.cond (.l 5) (zR [zm 6 0,⟨.l 7,.slice .str 1 (.l 6) (some (kI 1)) none none,none⟩,zw 1 7] (.ret)) (.skip))) (zR [zm 8 0,zw 1 8] (.ret)))
theorem adN:FT 56=some ⟨9,[0,2],[.var (.p 1)],MY⟩:=by kernel_rfl
def MZ:al:=zR [zi 1 0] (.seq (zR [zm 3 0,z1 4 142 3,z1 5 56 4,zL 6 5,zc 7 .gtr 6 600,zn 8 7,zg (zm 9 0) 8 false,zg (z1 10 143 9) 8 false,zg (zL 11 10) 8 false,zg (zc 12 .gtr 11 600) 8 false,zP 13 8 12] (.cond (.l 13) (zR [zi 1 4] (.ret)) (.skip))) (zR [zi 1 0] (.ret)))
theorem adO:FT 108=some ⟨14,[0,2],[.var (.p 1)],MZ⟩:=by kernel_rfl
def Na:al:=zR [⟨.p 1,.mv (.c (.str [])),none⟩] (zR [zm 3 0,zm 4 0,z1 5 153 4,⟨.l 6,.slice .str 1 (.l 3) none (some (.l 5)) none,none⟩,zw 1 6] (.ret))
theorem adP:FT 142=some ⟨7,[0,2],[.var (.p 1)],Na⟩:=by kernel_rfl
def Nb:al:=zR [⟨.p 1,.mv (.c (.str [])),none⟩] (zR [zm 4 0,z1 5 153 4,zw 2 5] (.seq (zR [zm 6 2,zm 7 0,zL 8 7,zb 9 .eql 6 8] (.cond (.l 9) (zR [⟨.p 1,.mv (.c (.str [49])),none⟩] (.ret)) (.skip))) (zR [zm 10 0,zm 11 2,zc 12 .add 11 1,⟨.l 13,.slice .str 1 (.l 10) (some (.l 12)) none none,none⟩,zw 1 13] (.ret))))
theorem adQ:FT 143=some ⟨14,[0,2,3],[.var (.p 1)],Nb⟩:=by kernel_rfl
end Go.Ab.Ch1

/-
  Own work: the reference's fractions as texts: signs, opposites, numerators, denominators.
-/
namespace Go.Ab.Ch1
open Go.Ab.aY
variable {M:ax} {N:Nat}
theorem Er (q:Rat):aQ q≠[]:=fun h=>by
 have:=yp q;rw[h]at this;have:=congrArg List.length this;have:=List.length_pos_iff.2 (kq q.num.natAbs);simp at *
 omega
theorem adR (q:Rat):0<(aQ q).length/\(((aQ q)[Int.toNat 0]!).toNat:Int)=45↔q.num<0:=by
 have h:=(xe q).1;have h0:=Er q;generalize aQ q=s at *
 cases s with
 | nil=>exact absurd rfl h0
 | cons c t=>
  rw[preB,List.head?_cons,decide_eq_decide]at h;rw[←h];show 0<t.length+1/\((c.toNat:Int)=45)↔some c=some 45;constructor
  . intro h;rw[show c=45 from UInt8.toNat_inj.1 (by have:=h.2;have e:(45:UInt8).toNat=45:=rfl;omega)]
  . intro h;cases h;exact⟨by omega,rfl⟩
theorem adS {q:Rat}(h:q.num<0):aQ q=45::aQ (-q):=by
 rw[yp,yp,Rat.neg_num,Rat.neg_den,if_pos h,if_neg (show ¬ -q.num<0 by omega),Int.natAbs_neg];simp
theorem Nc {q:Rat}:q.num=0↔q=0:=Rat.num_eq_zero
theorem adT (hft:M.FT=FT)(q:Rat):aT M 140 [.str (aQ q)] [] ⟨.iV (bD q.num),[],[]⟩:=by
 refine bH (by rw[hft];exact adm) (by simp) ?_;unfold MK;simp only[enter];by_cases h0:q.num=0
 . rw[h0,Nc.1 h0,aah];repeat' first|apply aap|apply aM|apply aaF|apply aaY|apply abu|apply bZ|(apply abz;rfl)|(apply aeK;rfl;rfl;all_goals first|(intro h;exact absurd h (by decide))|(intro h;exact absurd rfl h)|(intro h;contradiction)|intro _)|(apply aab;rfl;rfl)|(apply aaZ;rfl;rfl)
   all_goals exact⟨.inr rfl,rfl,_,rfl,rfl,rfl⟩
 . have hne:aQ q≠[48]:=fun h=>h0 (Nc.2 (aai h))
   have hl:=List.length_pos_iff.2 (Er q);have hh:=adR q;unfold bD;by_cases hn:q.num<0
   . rw[if_pos hn];obtain⟨_,h45⟩:=hh.2 hn;generalize aQ q=s at *
     repeat' first|apply aap|apply aM|apply aaF|apply aaY|apply abu|apply abJ|apply bZ|(apply abz;rfl)|(apply abF;rfl)|(apply acY;rfl)|(apply adU;rfl;rfl)|(apply adE;rfl;rfl)|(apply acR;rfl;rfl)|(apply afb;rfl;rfl;omega)|(apply aeK;rfl;rfl;all_goals first|(intro h;exact absurd h (by decide))|(intro h;exact absurd rfl h)|(intro h;contradiction)|intro _)|(apply aab;rfl;rfl)|(apply aaZ;rfl;rfl)|(intro _;omega)|intro _
     all_goals try omega
     all_goals exact⟨.inr rfl,rfl,_,rfl,rfl,rfl⟩
   . rw[if_neg hn,if_pos (show 0<q.num by omega)];have h45:¬(((aQ q)[Int.toNat 0]!).toNat:Int)=45:=fun h=>hn (hh.1 ⟨hl,h⟩)
     generalize aQ q=s at *
     repeat' first|apply aap|apply aM|apply aaF|apply aaY|apply abu|apply abJ|(apply abF;rfl)|(apply acY;rfl)|(apply adU;rfl;rfl)|(apply adE;rfl;rfl)|(apply acR;rfl;rfl)|(apply afb;rfl;rfl;omega)|(apply aeK;rfl;rfl;all_goals first|(intro h;exact absurd h (by decide))|(intro h;exact absurd rfl h)|(intro h;contradiction)|intro _)|(apply aab;rfl;rfl)|(apply aaZ;rfl;rfl)|(intro _;omega)|intro _
     all_goals try omega
     all_goals exact⟨.inr rfl,rfl,_,rfl,rfl,rfl⟩
theorem w56 (hft:M.FT=FT){q:Rat}(q140:∀h,M.ext 140 [.str (aQ q)] h=some ⟨.iV (bD q.num),h,[]⟩):aT M 56 [.str (aQ q)] [] ⟨.str (aQ (if q.num<0 then -q else q)),[],[]⟩:=by
 refine bH (by rw[hft];exact adN) (by simp) ?_;have h0:=List.length_pos_iff.2 (Er q);unfold MY;simp only[enter];by_cases hn:q.num<0
 . have e1:(aQ q).drop (Int.toNat 1)=aQ (-q):=by rw[adS hn];rfl
   have e2:bD q.num = -1:=if_pos hn;rw[e2]at q140;rw[if_pos hn];generalize aQ (-q)=t at *
   generalize aQ q=s at *
   exact gg0
 . have e2:0<=bD q.num:=by unfold bD;rw[if_neg hn];split <;> omega
   rw[if_neg hn];generalize aQ q=s at *
   generalize bD q.num=z at *
   exact gg5
theorem yq (q:Rat):cw (aQ q)=(bL q.num).length/\(aQ q).take (cw (aQ q))=bL q.num/\(cw (aQ q)=(aQ q).length↔q.den=1)/\(q.den≠1->(aQ q).drop (cw (aQ q)+1)=aR q.den/\cw (aQ q)+1<=(aQ q).length)/\js (aQ q)=decide (q.den≠1)/\bE 47 (aQ q)=(bL q.num,if q.den=1 then none else some (aR q.den)):=by
 have e:bE 47 (aQ q)=(bL q.num,if q.den=1 then none else some (aR q.den)):=by
  unfold aQ;split
  . exact wX (wZ _)
  . exact wY (wZ _)
 have e1:cw (aQ q)=(bL q.num).length:=by unfold cw;rw[e]
 refine⟨e1,?_,?_,?_,?_,e⟩
 . rw[e1];unfold aQ;split <;> simp
 . rw[e1];unfold aQ;split <;> simp[*]
 . intro h;rw[e1];unfold aQ;rw[if_neg h];constructor
   . rw[show bL q.num++47::aR q.den=(bL q.num++[47])++aR q.den by simp,List.drop_append_of_le_length (by simp)];simp
   . simp
 . unfold js;rw[e];by_cases h:q.den=1 <;> simp[h]
theorem yr (z:Int):aQ (z:Rat)=bL z:=by
 unfold aQ;rw[if_pos (Rat.den_intCast z),Rat.num_intCast]
theorem adV (hft:M.FT=FT){q:Rat}(q153:∀h,M.ext 153 [.str (aQ q)] h=some ⟨.iV (cw (aQ q)),h,[]⟩):aT M 142 [.str (aQ q)] [] ⟨.str (bL q.num),[],[]⟩:=by
 refine bH (by rw[hft];exact adP) (by simp) ?_;obtain⟨_,e,_⟩:=yq q;have hk:=xV (aQ q);have e':(aQ q).take ((cw (aQ q):Nat):Int).toNat=bL q.num:=e;generalize bL q.num=t at *
 generalize aQ q=s at *
 unfold Na;simp only[enter];exact gg0
theorem Ou:aR 1=[49]:=gN (by decide)
theorem adW (hft:M.FT=FT){q:Rat}(hl:(aQ q).length<1000000)(q153:∀h,M.ext 153 [.str (aQ q)] h=some ⟨.iV (cw (aQ q)),h,[]⟩):aT M 143 [.str (aQ q)] [] ⟨.str (aR q.den),[],[]⟩:=by
 refine bH (by rw[hft];exact adQ) (by simp) ?_;obtain⟨_,_,hd,hs,_⟩:=yq q;have hk:=xV (aQ q);unfold Nb;simp only[enter];by_cases h1:q.den=1
 . have e:=hd.2 h1;rw[h1];generalize aQ q=s at *
   exact gg0
 . obtain⟨e,e2⟩:=hs h1;have hne:cw (aQ q)≠(aQ q).length:=fun h=>h1 (hd.1 h)
   have e':(aQ q).drop ((cw (aQ q):Nat)+1:Int).toNat=aR q.den:=by rw[show ((cw (aQ q):Nat)+1:Int).toNat=cw (aQ q)+1 by omega];exact e
   generalize aR q.den=t at *
   generalize aQ q=s at *
   exact gg5
theorem adX (hft:M.FT=FT){q:Rat}(hq:Dq 600 q)(q142:∀h,M.ext 142 [.str (aQ q)] h=some ⟨.str (aQ (q.num:Rat)),h,[]⟩)(q56:∀h,M.ext 56 [.str (aQ (q.num:Rat))] h=some ⟨.str (aQ (if q.num<0 then -(q.num:Rat) else (q.num:Rat))),h,[]⟩)(q143:∀h,M.ext 143 [.str (aQ q)] h=some ⟨.str (aR q.den),h,[]⟩):aT M 108 [.str (aQ q)] [] ⟨.iV 0,[],[]⟩:=by
 have l1:(aQ (if q.num<0 then -(q.num:Rat) else (q.num:Rat))).length<=600:=by
  have e:aQ (if q.num<0 then -(q.num:Rat) else (q.num:Rat))=aR (ak q.num).toNat:=by
   unfold ak;split
   . rw[show -(q.num:Rat)=((-q.num:Int):Rat) by simp,yr,Em (by omega)]
   . rw[yr,Em (by omega)]
  rw[e];exact qx (by decide) hq.1
 have l2:(aR q.den).length<=600:=by
  have:=qx (z:=q.den) (k:=600) (by decide) (by rw[cV (by omega)];exact hq.2);rw[cV (by omega),Int.toNat_natCast]at this;exact this
 generalize aR q.den=d at *
 generalize aQ (if q.num<0 then -(q.num:Rat) else (q.num:Rat))=n at *
 refine bH (by rw[hft];exact adO) (by simp) ?_;unfold MZ;simp only[enter];exact gg5
end Go.Ab.Ch1

/-
  Own work: the reference's fractions: short ones as machine integers.
-/
namespace Go.Ab.Ch1
open Go.Ab.aY
variable {M:ax} {N:Nat}
end Go.Ab.Ch1

/-
  Own work: the reference's fractions: sums, products, quotients, comparisons.
-/
namespace Go.Ab.Ch1
open Go.Ab.aY
variable {M:ax} {N:Nat}
structure Fit (N k:Nat)(q:Rat):Prop where
 dq:Dq k q
 n0:ak q.num<dB^N
 d0:ak (q.den:Int)<dB^N
theorem fit {k:Nat}(hk:(10:Int)^(2*k+1)<=dB^N){q:Rat}(h:Dq k q):Fit N k q:=by
 have h1:=oH (m:=k) (n:=2*k+1) (by omega);exact⟨h,by have:=h.1;omega,by rw[cV (by omega)];have:=h.2;omega⟩
end Go.Ab.Ch1

/-
  Own work: the code of functions: the laws MarkNumbers and MarkParts.
-/
namespace Go.Ab.Ch1
set_option maxRecDepth 1000000
def Es:al:=.seq (zR [zm 4 2,zm 5 0,zl 6 5,zb 7 .lss 4 6] (.cond (.l 7) (.skip) (.exit 0))) (.seq (.block 1 (zR [zm 10 0,zm 11 2,za 12 1 10 11,zd 13 1 12,zL 14 13,zc 15 .gtr 14 60] (.cond (.l 15) (zR [⟨.p 1,.mv (.c (.bool false)),none⟩] (.ret)) (.skip)))) (.region [zm 8 2,zc 9 .add 8 1,zw 2 9]))
def Nd:al:=zR [⟨.p 1,.mv (.c (.bool false)),none⟩] (.seq (zR [zi 2 0] (.block 0 (.loop Es))) (zR [⟨.p 1,.mv (.c (.bool true)),none⟩] (.ret)))
theorem adY:FT 72=some ⟨16,[0,2,3],[.var (.p 1)],Nd⟩:=by kernel_rfl
def Et:al:=zR [⟨.p 4,.mv (.c (.bool false)),none⟩] (.seq (zR [zm 9 2,zc 10 .eql 9 0] (.cond (.l 10) (.region [zm 11 3,z1 12 108 11,zw 2 12]) (.skip))) (.seq (zR [zm 13 2,zc 14 .neq 13 0] (.cond (.l 14) (zR [zm 15 0,⟨.l 16,.bin .eql (.l 15) (.c (.str [])),none⟩,zn 17 16,zg (zm 18 1) 17 true,zg (zm 19 2) 17 true,zg (zb 20 .eql 18 19) 17 true,zp 21 17 20,zw 4 21] (.ret)) (.skip))) (zR [zm 22 1,zc 23 .eql 22 0,zn 24 23,zg (zm 25 0) 24 true,zg (zm 26 3) 24 true,zg (zb 27 .eql 25 26) 24 true,zp 28 24 27,zw 4 28] (.ret))))
theorem Nf:FT 75=some ⟨29,[0,1,2,3,8],[.var (.p 4)],Et⟩:=by kernel_rfl
def Ng:al:=zR [zx 3 23 2 2,⟨.p 4,.mv (.c (.bool false)),none⟩] (.seq (zR [⟨.l 15,.call (kF 18) [],none⟩,zu 16 15,zn 17 16,zg (zm 18 0) 17 false,zg (zL 19 18) 17 false,zg (zc 20 .gtr 19 60) 17 false,zP 21 17 20,zn 22 21,zg (zm 23 1) 22 false,⟨.l 24,.dZ 75 1 1 [.str []] [(0,1,(.l 23))],some ((.l 22),false)⟩,zg (z1 25 72 24) 22 false,zg (zu 26 25) 22 false,zP 27 22 26] (.cond (.l 27) (zR [⟨.l 28,.call (kF 18) [],none⟩,zw 4 28] (.ret)) (.skip))) (zR [⟨.l 30,.cP (some 2) 1 (.p 3) (kI 0),none⟩,zd 31 1 30,⟨.l 32,.cP (some 2) 1 (.p 3) (kI 1),none⟩,zd 33 1 32,z2 34 77 31 33,zn 29 34,ze 35 0 29,ze 36 1 29,zw 5 35,zw 6 36] (.seq (zR [⟨.l 37,.cP (some 2) 1 (.p 3) (kI 1),none⟩,zd 38 1 37,zc 39 .eql 38 0,zn 40 39,zg (zm 41 5) 40 true,zg (zm 42 6) 40 true,⟨.l 43,.call (kF 75) [(.l 41),(.l 42),(kI 6),(.c (.str []))],some ((.l 40),true)⟩,zg (zu 44 43) 40 true,zp 45 40 44,zn 46 45,⟨.l 47,.cP (some 2) 1 (.p 3) (kI 1),some ((.l 46),false)⟩,zg (zd 48 1 47) 46 false,zg (zc 49 .neq 48 0) 46 false,zg (zn 50 49) 46 false,zg (zm 51 5) 50 true,zg (zm 52 6) 50 true,⟨.l 53,.cP (some 2) 1 (.p 3) (kI 0),some ((.l 50),true)⟩,zg (zd 54 1 53) 50 true,⟨.l 55,.cP (some 2) 1 (.p 3) (kI 1),some ((.l 50),true)⟩,zg (zd 56 1 55) 50 true,zg (z2 57 78 54 56) 50 true,⟨.l 58,.call (kF 75) [(.l 51),(.l 52),(kI 0),(.l 57)],some ((.l 50),true)⟩,zg (zu 59 58) 50 true,zg (zp 60 50 59) 46 false,zP 61 46 60] (.cond (.l 61) (zR [⟨.p 4,.mv (.c (.bool false)),none⟩] (.ret)) (.skip))) (zR [zm 63 1,z1 64 79 63,zn 62 64,ze 65 0 62,ze 66 1 62,zw 7 65,zw 8 66] (zR [zm 67 1,z1 68 62 67,zw 9 68] (.seq (zR [zm 69 9,zc 70 .neq 69 0,zn 71 70,zg (zm 72 7) 71 true,zg (zm 73 8) 71 true,zg (zm 74 9) 71 true,⟨.l 75,.call (kF 75) [(.l 72),(.l 73),(.l 74),(.c (.str []))],some ((.l 71),true)⟩,zg (zu 76 75) 71 true,zp 77 71 76,zn 78 77,zg (zm 79 9) 78 false,zg (zc 80 .eql 79 0) 78 false,zg (zn 81 80) 78 false,zg (zm 82 7) 81 true,zg (zm 83 8) 81 true,zg (zm 84 1) 81 true,zg (z1 85 80 84) 81 true,⟨.l 86,.call (kF 75) [(.l 82),(.l 83),(kI 0),(.l 85)],some ((.l 81),true)⟩,zg (zu 87 86) 81 true,zg (zp 88 81 87) 78 false,zP 89 78 88] (.cond (.l 89) (zR [⟨.p 4,.mv (.c (.bool false)),none⟩] (.ret)) (.skip))) (zR [⟨.l 91,.cP (some 2) 1 (.p 3) (kI 0),none⟩,zd 92 1 91,z1 93 51 92,zn 90 93,ze 94 0 90,ze 95 1 90,zw 10 94,zw 11 95] (zR [zi 12 0] (.seq (zR [⟨.l 96,.cP (some 2) 1 (.p 3) (kI 0),none⟩,zd 97 1 96,zc 98 .geq 97 0] (.cond (.l 98) (.region [⟨.l 99,.cP (some 2) 1 (.p 3) (kI 0),none⟩,zd 100 1 99,z1 101 81 100,zw 12 101]) (.skip))) (zR [zm 102 0,z1 103 82 102,zm 104 0,z1 105 83 104,⟨.l 106,.eq false .bool (.l 103) (.l 105),none⟩,zn 107 106,zg (zm 108 10) 107 true,zg (zm 109 11) 107 true,⟨.l 110,.cP (some 2) 1 (.p 3) (kI 0),some ((.l 107),true)⟩,zg (zd 111 1 110) 107 true,zg (zc 112 .lss 111 0) 107 true,⟨.l 113,.call (kF 25) [(.l 112),(kI 3)],some ((.l 107),true)⟩,zg (zm 114 12) 107 true,⟨.l 115,.call (kF 38) [(.l 108),(.l 109),(.l 113),(.l 114)],some ((.l 107),true)⟩,zp 116 107 115,zw 4 116] (.ret)))))))))))
theorem adZ:FT 15=some ⟨117,[0,1,2,5,6,7,8,9,10,11,12,13,14],[.var (.p 4)],Ng⟩:=by kernel_rfl
end Go.Ab.Ch1

/-
  Own work: the resolved code of some functions of chapter 1: marks.
-/
namespace Go.Ab.Ch1
set_option maxRecDepth 1000000
def Eu:al:=zR [⟨.p 4,.mv (.c (.bool false)),none⟩] (.seq (zR [zm 9 2,zc 10 .neq 9 0] (.cond (.l 10) (zR [zm 11 0,zc 12 .eql 11 0,zn 13 12,zg (zm 14 1) 13 true,zg (zm 15 2) 13 true,zg (zb 16 .eql 14 15) 13 true,zp 17 13 16,zw 4 17] (.ret)) (.skip))) (zR [zm 18 1,zc 19 .eql 18 0,zn 20 19,zg (zm 21 0) 20 true,zg (zm 22 3) 20 true,zg (zb 23 .eql 21 22) 20 true,zp 24 20 23,zw 4 24] (.ret)))
theorem Nh:FT 38=some ⟨25,[0,1,2,3,8],[.var (.p 4)],Eu⟩:=by kernel_rfl
end Go.Ab.Ch1

/-
  Own work: stadionlaw01.MarkNumbers answers true.
-/
namespace Go.Ab.Ch1
open Go.Ab.aY
variable {M:ax} {cap:Option Nat} {N:Nat}
theorem aea (hft:M.FT=FT){e:Int}(he:e≠0):aT M 75 [.str [],.iV e,.iV e,.str []] [] ⟨.bool true,[],[]⟩:=by
 refine bH (by rw[hft];exact Nf) (by simp) ?_;unfold Et;simp only[enter];repeat' first|apply aap|apply aM|apply aaF|apply aaY|apply abu|apply abJ|apply bZ|(apply abz;rfl)|(apply abF;rfl)|(apply acY;rfl)|(apply adE;rfl;rfl)|(apply aef;rfl;rfl)|(apply acR;rfl;rfl)|(apply aeK;rfl;rfl;all_goals first|(intro h;exact absurd h (by decide))|(intro h;exact absurd rfl h)|(intro h;contradiction)|intro _)|(apply aab;rfl;rfl)|(apply aaZ;rfl;rfl)|(intro _;omega)|intro _
 all_goals try omega
 all_goals exact⟨.inr rfl,rfl,_,rfl,rfl,rfl⟩
theorem w75 (hft:M.FT=FT){s:an}(q:∀h,M.ext 108 [.str s] h=some ⟨.iV 0,h,[]⟩):aT M 75 [.str s,.iV 0,.iV 0,.str s] [] ⟨.bool true,[],[]⟩:=by
 refine bH (by rw[hft];exact Nf) (by simp) ?_;unfold Et;simp only[enter];repeat' first|apply aap|apply aM|apply aaF|apply aaY|apply abu|apply abJ|(apply abz;rfl)|(apply abF;rfl)|(apply acY;rfl)|(apply adE;rfl;rfl)|(apply aef;rfl;rfl)|(apply acR;rfl;rfl)|(apply abD;rfl;rfl;first|exact q _)|(apply aeK;rfl;rfl;all_goals first|(intro h;exact absurd h (by decide))|(intro h;exact absurd rfl h)|(intro h;contradiction)|intro _)|(apply aab;rfl;rfl)|(apply aaZ;rfl;rfl)|(intro _;omega)|intro _
 all_goals exact⟨.inr rfl,rfl,_,rfl,rfl,rfl⟩
theorem aec (hft:M.FT=FT){e:Int}(he:e≠0):aT M 38 [.iV 0,.iV e,.iV e,.iV 0] [] ⟨.bool true,[],[]⟩:=by
 refine bH (by rw[hft];exact Nh) (by simp) ?_;unfold Eu;simp only[enter];exact gg0
theorem aed (hft:M.FT=FT)(c:Int):aT M 38 [.iV c,.iV 0,.iV 0,.iV c] [] ⟨.bool true,[],[]⟩:=by
 refine bH (by rw[hft];exact Nh) (by simp) ?_;unfold Eu;simp only[enter];exact gg2
end Go.Ab.Ch1

/-
  Own work: the reference's integers: no digits times no digits.
-/
namespace Go.Ab.Ch1
open Go.Ab.aY
variable {M:ax} {cap c1 c2:Option Nat}
theorem fU.zero {b:Nat}{e:TypeId}{hp:ab}(hb:hp.at b=some (.cells (aj []) e)):fU (aV [.sl b 0 0 1 cap]) (if (aV [.sl b 0 0 1 cap]).top<=0 then [] else hp) []:=by
 rw[if_neg (by simp[aV,AV.top])];refine⟨.vs [] 0 none,⟨[b],.sl (m:=[]) (List.mem_singleton.2 rfl) hb rfl rfl (fun i x y hx=>by simp at hx) (.inr rfl),rfl,fun c l' e' hc hl'=>?_⟩,rfl,rfl⟩;rw[List.mem_singleton.1 hc,hb]at hl';cases hl';exact nJ (fun _=>rfl) []
theorem aee (hft:M.FT=FT)(dK:∀ars h,M.ext 242 ars h=none):xW M 197 [.vs (aj []) ([]:List Int).length c1,.vs (aj []) ([]:List Int).length c2] (WV dB []*WV dB []):=by
 refine DG (by rw[hft];exact LO) (by simp) ?_;have q:=CT.run (fi:=[]) (ca:=[]) (ars:=[.sl 0 0 0 1 (some 0)]) (dK _ _) (DK hft (b:=0) (L:=[]) (e:=3) (hp:=[some (.cells (aj []) 3)]) (cap:=some 0) rfl);have hl:([]:List Int).length=0:=rfl;unfold DD;simp only[enter];rw[hl];refine gg6 ?_;refine W.loop ?_;unfold xT;exact gg4
end Go.Ab.Ch1
