/-
  Own work: Split by one byte.
-/
import Derived.Test.YtcjphdmkgmkabaaGreatDoorLib7
import Derived.Test.YtcjphdmkgmkabaaGreatDoorLib8
import Derived.Test.YtcjphdmkgmkabaaGreatDoorLib4
set_option maxHeartbeats 8000000
set_option maxRecDepth 20000
namespace Go.Ab.Ch1
open Go.Ab.aI
variable {M:ay} {cap:Option Nat}
theorem yS:∀n:Nat,dZ [AV.str []] n=strs (List.replicate n [])
 | 0=>rfl
 | n+1=>by
  rw[dZ,yS n,List.replicate_succ];rfl
theorem NL {t b o len c:Nat}{x y:aq}{l:List az}{pe:List AV}{lo:List (Nat×AV)}{hp:ae}{df wr:List Nat}{k:Nat}{Q:ak->Prop}(hx:(St.mk pe lo hp df).aa x=some (.sl b o len 1 (some c)))(hy:(St.mk pe lo hp df).aa y=some (.iV k))(hn:0<k/\k<=c)
 (h:WO M l ⟨⟨pe,(t,.sl b o k 1 (some c))::lo,hp,df⟩,wr⟩ Q):WO M (⟨.l t,.slice .sl 1 x none (some y) none,none⟩::l) ⟨⟨pe,lo,hp,df⟩,wr⟩ Q:=by
 refine LK (v:=.sl b o k 1 (some c)) ?_ rfl h;have h1:(0:Int)<=(k:Int)/\(k:Int)<=c:=⟨by omega,by omega⟩;simp only[aE,hx,St.bT,hy,Option.map_some,gm,aS,Option.getD_some];simp[h1,hn.1]
theorem yT (b:UInt8):∀(s:ah) (n:Int),s.foldl (fun n x=>if x == b then n+1 else n) n=n+cV b s
 | [],n=>by simp[cV]
 | c::s,n=>by
  rw[List.foldl_cons,yT b s,cV];by_cases hc:c=b
  . simp[hc];omega
  . simp[hc]
theorem Kd (s:ah)(b:UInt8):(ByteArray.mk s.toArray).foldl (fun n x=>if x == b then n+1 else n) ((0:Nat):Int)=cV b s:=by
 rw[Go.Lib.foldl_data];show s.foldl _ _=_;rw[yT];simp
structure ky (M:ay):Prop extends ki M where
 yU:∀ars h,M.ext 310 ars h=none
 yV:∀ars h,M.ext 309 ars h=none
 yW:∀ars h,M.ext 268 ars h=none
 yX:∀(s:ah) (c:Int) h,M.ext 329 [.str s,.int .u8 c] h=some ⟨.iV ((ByteArray.mk s.toArray).foldl (fun n x=>if x == c.toNat.toUInt8 then n+1 else n) ((0:Nat):Int)),h,[]⟩
theorem Ke (C:ky M)(s:ah)(b:UInt8)(H:ae):CT M (gE 310) [.str s,.str [b]] H ⟨.iV (firstIdx ⟨s.toArray⟩ b),H,[]⟩:=by
 have hc:=wA C.toki s b H;refine CT.run (C.yU _ _) (iF (by rw[C.ft];exact JW) (by simp) ?_);simp only[List.nil_append,List.append_nil];unfold yM;simp only[enter];repeat' first|apply LL|apply aj|apply LM|apply LN|apply LP|(apply Mz;rfl;rfl;first|exact hc)|(apply LK;rfl;rfl)|(apply LO;rfl;rfl)
 exact⟨.inr rfl,rfl,rfl,rfl,_,rfl,rfl⟩
theorem Kf (C:ky M)(s:ah)(b:UInt8)(H:ae):CT M (gE 309) [.str s,.str [b]] H ⟨.iV (cV b s),H,[]⟩:=by
 have hc:=C.yX s b.toNat H;rw[wz,Kd]at hc;have hn1:([b]:ah).length=1:=rfl;refine CT.run (C.yV _ _) (iF (by rw[C.ft];exact JV) (by simp) ?_);simp only[List.nil_append,List.append_nil];unfold yL;simp only[enter];repeat' first|apply LL|apply aj|apply LM|apply LN|apply LP|apply LU|apply aF|(apply LS;rfl)|(apply LR;rfl)|(apply Mc;rfl;rfl)|(apply LV;rfl;rfl;first|exact hc)|(apply Mn;rfl;rfl;omega)|(apply LK;rfl;rfl)|(apply LO;rfl;rfl)|(intro _;omega)|intro _
 exact⟨.inr rfl,rfl,rfl,rfl,_,rfl,rfl⟩
theorem NM {t:Nat}{x:aq}{l:List az}{pe:List AV}{lo:List (Nat×AV)}{hp:ae}{df wr:List Nat}{k:Nat}{Q:ak->Prop}(hx:(St.mk pe lo hp df).aa x=some (.iV k))(hk:k<1000000)
 (h:WO M l ⟨⟨pe,(t,.sl hp.length 0 k 1 (some k))::lo,hp++[some (.cells (strs (List.replicate k [])) 9)],df⟩,wr⟩ Q):WO M (⟨.l t,.gk 9 1 16 [.str []] x x,none⟩::l) ⟨⟨pe,lo,hp,df⟩,wr⟩ Q:=by
 refine WO.Dh hx hx ⟨by omega,Int.le_refl _,by unfold eM;omega,by omega,rfl⟩ ?_;rw[Int.toNat_natCast,yS];exact h
theorem yY (d:List ah)(k:Nat)(x:ah):(d++List.replicate (k+1) []).set d.length x=(d++[x])++List.replicate k []:=by
 rw[List.set_append_right _ _ (Nat.le_refl _),Nat.sub_self,List.replicate_succ,List.set_cons_zero,List.append_assoc];rfl
theorem Kh (C:ky M)(b:UInt8)(n:Nat)(hn:n<1000000)(L:List ah){Q:Ex->ak->Prop}:∀(r:Nat) (d:List ah) (t:ah) (a7:AV) (lo:List (Nat×AV)) (wr:List Nat),d.length+r+1=n->cV b t=r->t.length<1000000->d++aK b t=L ->
 (∀d t a7 lo wr,d.length+1=n->d++[t]=L->Q (.exit 0) ⟨⟨[.str t,.str [b],.iV 0,.iV ((n:Int)-1),.al,.sl 0 0 n 1 (some n),.iV d.length,a7],lo,[some (.cells (strs (d++List.replicate 1 [])) 9)],[]⟩,wr⟩) ->
 W M (.loop oF) ⟨⟨[.str t,.str [b],.iV 0,.iV ((n:Int)-1),.al,.sl 0 0 n 1 (some n),.iV d.length,a7],lo,[some (.cells (strs (d++List.replicate (r+1) [])) 9)],[]⟩,wr⟩ Q:=by
 intro r;induction r with
 | zero=>
  intro d t a7 lo wr h1 h2 h3 h4 hQ;have h0:=iL (rK h2);rw[h0.2.1]at h4;refine W.loop ?_;unfold oF;repeat' first|apply LL|apply aj|apply LM|apply LN|apply Mi|apply bO|apply cE|(apply LR;rfl)|(apply Md;rfl;rfl)|(apply LK;rfl;rfl)|(intro _;omega)|intro _
  exact hQ _ _ _ _ _ (by omega) h4
 | succ r ih=>
  intro d t a7 lo wr h1 h2 h3 h4 hQ;have hi:=Ke C t b [some (.cells (strs (d++List.replicate (r+1+1) [])) 9)];rw[wC]at hi;have hn1:([b]:ah).length=1:=rfl;cases hy:(aT b t).2 with
  | none=>
   have:=(iL hy).2.2;omega
  | some y=>
   rw[if_neg (by rw[hy];simp)]at hi;have g1:=nW hy;have g2:=wD hy;have g3:=wE hy;have g4:=iM hy;generalize hx:(aT b t).1=x at g1 g2 g3 g4 hi;have hlen:(d++List.replicate (r+1+1) ([]:ah)).length=n:=by simp;omega
   refine W.loop ?_;unfold oF;repeat' first|(apply MK (r:=x);rfl;rfl;omega;(rw[show ((x.length:Int)+0).toNat=x.length by omega];exact g2))|(apply MW (r:=y);rfl;rfl;omega;(rw[show ((x.length:Int)+(([b]:ah).length:Int)).toNat=x.length+1 by omega];exact g3))|apply LL|apply aj|apply LM|apply LN|apply LW|apply LU|apply aZ|(apply LS;rfl)|(apply LR;rfl)|(apply Md;rfl;rfl)|(apply Mk;rfl;rfl;omega)|(apply Mz;rfl;rfl;first|exact hi)|(apply MN;rfl;rfl;omega)|(apply Nk;rfl;rfl;(first|rfl|assumption|exact cS|(apply aJ;assumption)|(apply dN;first|assumption|(simp only[gW];assumption)));exact fun _=>rfl;(first|omega|(simp only[List.length_set];omega)|(simp;omega));exact⟨rfl,by decide,rfl⟩;rfl;case ia=>infer_instance)|(apply LK;rfl;rfl)|(apply LO;rfl;rfl)|(intro _;omega)|intro _
   refine ji ?_;have e:=ih (d++[x]) y (.iV (x.length:Nat)) [(57,.iV ((d.length:Int)+1)),(56,.iV d.length)] (0::([]++wr)) (by simp;omega) (by omega) (by omega) (by rw[←h4,g4.2.1];simp) hQ;rw[show ((d++[x]).length:Int)=(d.length:Int)+1 by simp,←yY d (r+1) x]at e;rw[show ((d.length:Int)).toNat=d.length from Int.toNat_natCast _];exact e
theorem Ki (C:ky M)(s:ah)(b:UInt8)(hl:s.length<500000):CT M (gE 268) [.str s,.str [b],.iV 0,.iV (-1)] [] ⟨.sl 0 0 (aK b s).length 1 (some (aK b s).length),[some (.cells (strs (aK b s)) 9)],[]⟩:=by
 have hc:=Kf C s b [];have hle:=rJ b s;have hL:=kj b s;generalize hn:(aK b s).length=n at hL;have e1:(cV b s:Int)+1=(n:Int):=by omega
 rw[show (cV b s:Int)=(n:Int)-1 by omega]at hc;have hn1:([b]:ah).length=1:=rfl;refine CT.run (C.yW _ _) ?_;simp only[List.nil_append,List.append_nil];refine ba (by rw[C.ft];exact JT) (by simp) ?_;unfold yK;simp only[enter];repeat' first|(apply Mg;rfl;rfl;(intro h;exact absurd h (by simp));intro _)|(apply MO (m:=(n:Int));rfl;rfl;omega)|(apply NM (k:=n);rfl;omega)|apply LL|apply aj|apply LM|apply LN|apply LW|apply LU|(apply LS;rfl)|(apply LR;rfl)|(apply Md;rfl;rfl)|(apply Mc;rfl;rfl)|(apply Mk;rfl;rfl;omega)|(apply Mw;rfl;rfl;omega)|(apply Mz;rfl;rfl;first|exact hc)|(apply LK;rfl;rfl)|(apply LO;rfl;rfl)|(intro _;omega)|intro _
 rw[show List.replicate n ([]:ah)=[]++List.replicate (cV b s+1) [] by rw[hL];rfl];refine Kh C b n (by omega) (aK b s) (cV b s) [] s _ _ _ (by simp;omega) rfl (by omega) (by simp) (fun d t a7 lo wr h1 h2=>?_);have hlen:(d++List.replicate 1 ([]:ah)).length=n:=by simp;omega
 repeat' first|(apply NL (k:=n);rfl;(exact congrArg some (congrArg (AV.int .i64) (by omega)));omega)|apply LL|apply aj|apply LM|apply LN|apply LP|apply bR|(apply Mk;rfl;rfl;omega)|(apply MN;rfl;rfl;omega)|(apply Nk;rfl;rfl;(first|rfl|assumption|exact cS|(apply aJ;assumption)|(apply dN;first|assumption|(simp only[gW];assumption)));exact fun _=>rfl;(first|omega|(simp only[List.length_set];omega)|(simp;omega));exact⟨rfl,by decide,rfl⟩;rfl;case ia=>infer_instance)|(apply LK;rfl;rfl)|(apply LO;rfl;rfl)
 have he:(d++List.replicate 1 ([]:ah)).set ((d.length:Int)).toNat t=aK b s:=by
  rw[Int.toNat_natCast,yY d 0 t,←h2];simp
 rw[he];exact⟨.inr rfl,rfl,_,rfl,rfl,rfl⟩
theorem Kj (C:ky M)(s:ah)(b:UInt8)(hl:s.length<500000):aG M 229 [.str s,.str [b]] [] ⟨.sl 0 0 (aK b s).length 1 (some (aK b s).length),[some (.cells (strs (aK b s)) 9)],[]⟩:=by
 have hc:=Ki C s b hl;refine ba (by rw[C.ft];exact JS) (by simp) ?_;unfold yJ;simp only[enter];repeat' first|apply LL|apply aj|apply LM|apply LN|apply LP|(apply Mz;rfl;rfl;first|exact hc)|(apply LK;rfl;rfl)|(apply LO;rfl;rfl)
 exact⟨.inr rfl,rfl,_,rfl,rfl,rfl⟩
abbrev Kk:ao:=
 (zR [⟨(.p 11),.mv (.p 15),none⟩]
 (.region [⟨(.p 12),.mv (.p 16),none⟩]))
abbrev Kl:ao:=
 (.block 1
 (zR [⟨(.l 31),.load 1 false (.p 7),none⟩,
 zn 32 31,
 zg (zm 33 12) 32 true,
 zp 34 32 33,
 zs 1 7 34]
 (zR [⟨(.l 35),.load 1 false (.p 8),none⟩,
 zn 36 35,
 ⟨(.l 37),.load 1 false (.p 10),some ((.l 36),false)⟩,
 zg (zc 38 .lss 37 2) 36 false,
 zg (zn 39 38) 36 false,
 zg (zm 40 11) 39 true,
 zg (zc 41 .gtr 40 59) 39 true,
 zg (zp 42 39 41) 36 false,
 zP 43 36 42,
 zs 1 8 43]
 (.seq (zR [⟨(.l 44),.load 1 false (.p 10),none⟩,
 zc 45 .eql 44 2]
 (.cond (.l 45)
 (zR [⟨(.l 46),.load 1 false (.p 8),none⟩,
 zn 47 46,
 zg (zm 48 11) 47 false,
 zg (zc 49 .gtr 48 99) 47 false,
 zP 50 47 49,
 zs 1 8 50]
 (.region [zm 51 11,
 ⟨(.l 52),.mm false [(.l 51),(kI 99)],none⟩,
 zw 11 52]))
 (.skip)))
 (zR [⟨(.l 53),.load 1 false (.p 6),none⟩,
 zm 54 11,
 ⟨(.l 55),.mm false [(.l 54),(kI 99)],none⟩,
 ⟨(.l 56),.load 1 false (.p 9),none⟩,
 zb 57 .mul 55 56,
 zb 58 .add 53 57,
 zs 1 6 58]
 (zR [⟨(.l 59),.load 1 false (.p 9),none⟩,
 zc 60 .mul 59 60,
 zs 1 9 60]
 (.region [⟨(.l 61),.load 1 false (.p 10),none⟩,
 zc 62 .add 61 1,
 zs 1 10 62])))))))
abbrev yZ:ao:=
 (zR [⟨(.p 4),.mv (.p 8),none⟩]
 (.region [⟨(.p 5),.mv (.p 9),none⟩]))
abbrev zh:ao:=
 (.block 1
 (zR [zm 15 5,
 z1 16 121 15,
 zn 14 16,
 ze 17 0 14,
 ze 18 1 14,
 zw 6 17,
 zw 7 18]
 (.seq (zR [zm 19 4,
 zc 20 .gtr 19 0]
 (.cond (.l 20)
 (zR [zm 22 5,
 z1 23 187 22,
 zn 21 23,
 ze 24 0 21,
 ze 25 1 21,
 zw 6 24,
 zw 7 25]
 (.region [zm 26 7,
 zn 27 26,
 zg (zm 28 5) 27 true,
 zg (zL 29 28) 27 true,
 zg (zc 30 .eql 29 2) 27 true,
 zp 31 27 30,
 zw 7 31]))
 (.skip)))
 (zR [⟨(.l 32),.load 1 false (.p 2),none⟩,
 zm 33 6,
 zm 34 7,
 zn 35 34,
 ⟨(.l 36),.load 1 false (.p 3),some ((.l 35),true)⟩,
 zg (zl 37 36) 35 true,
 zg (zc 38 .leq 37 3) 35 true,
 zp 39 35 38,
 ⟨(.l 40),.call (.l 32) [(.l 33),(.l 39)],none⟩,
 zu 41 40]
 (.cond (.l 41)
 (.ret)
 (.skip))))))
abbrev zj (s f b:ah)(fd:Bool)(u1 u2 u3 u4:AV):List AV:=[.str s,.ptr 0 0,.iV 0,.str f,.str b,.bool fd,.ptr 1 0,.ptr 2 0,.ptr 3 0,.ptr 4 0,.ptr 5 0,u1,u2,bm,bm,u3,u4]
abbrev HA (s f b:ah)(fd:Bool)(t:dI)(st:LoopState)(pend:Option Ex)(u1 u2 u3 u4:AV)(R:ae):ae:=
 some (.cells [.str [],.iV 0,.str []] 49)::some (.cells [.iV t.n] 3)::some (.cells [.bool t.cM] 4)::some (.cells [.bool t.dv] 4)::some (.cells [.iV t.unit] 3)::some (.cells [.iV t.count] 3) ::
 some (.cells [.str f] 9)::some .cY::some (.loop st pend (zj s f b fd u1 u2 u3 u4) [(.p 15),(.p 16)] Kk Kl)::R
theorem fe {v:AV}{n:Nat}{s:ak}{H:ae}(hh:s.s.hp=H)(h:H.length<=n):cC v n s=⟨v,H,s.wr.filter (· < n)⟩:=by
 unfold cC;rw[List.take_of_length_le (by rw[hh];exact h),hh];split <;> rfl
theorem iP {n unit count:Int}{cM fine' dv far':Bool}(h1:cM=fine')(h2:dv=far'):(⟨n,cM,dv,unit,count⟩:dI)=⟨n,fine',far',unit,count⟩:=by rw[h1,h2]
theorem WO.kz {v:Nat}{g:aq}{args:List aq}{ls:List az}{pe0:List AV}{lo:List (Nat×AV)}{df wr:List Nat}{Q:ak->Prop}{s f b:ah}{fd:Bool}{t:dI}{u1 u2 u3 u4:AV}{R:ae}{x:Int}{right:Bool}
 (hc:0<=t.count/\t.count<1000000) (hx:0<=x/\x<1000000000)
 (hf:(St.mk pe0 lo (HA s f b fd t .ready none u1 u2 u3 u4 R) df).aa g=some (.fn (.yield 8) [] [])) (ha:(St.mk pe0 lo (HA s f b fd t .ready none u1 u2 u3 u4 R) df).br args=some [.iV x,.bool right])
 (h:∀u1 u2 u3 u4 wr',WO M ls ⟨⟨pe0,(v,.bool true)::lo,HA s f b fd (stepT t x right) .ready none u1 u2 u3 u4 R,df⟩,wr'⟩ Q) :
 WO M (⟨.l v,.call g args,none⟩::ls) ⟨⟨pe0,lo,HA s f b fd t .ready none u1 u2 u3 u4 R,df⟩,wr⟩ Q:=by
 obtain⟨n,cM,dv,unit,count⟩:=t;have h':∀(n':Int) (fine' far':Bool) (unit' count':Int) (u1 u2 u3 u4:AV) wr',(⟨n',fine',far',unit',count'⟩:dI)=stepT ⟨n,cM,dv,unit,count⟩ x right->WO M ls ⟨⟨pe0,(v,.bool true)::lo,HA s f b fd ⟨n',fine',far',unit',count'⟩ .ready none u1 u2 u3 u4 R,df⟩,wr'⟩ Q:=
  fun n' fine' far' unit' count' u1 u2 u3 u4 wr' e=>by rw[e];exact h _ _ _ _ _
 have hm:(min x 99=x/\x<=99)\/(min x 99=99/\99<=x):=by omega
 have hm2:(min x 99=min x 99/\min x 99<=99)\/(min x 99=99/\99<=min x 99):=by omega
 have hc:0<=count/\count<1000000:=hc;refine WO.uQ (s0:=⟨zj s f b fd u1 u2 (.iV x) (.bool right),[],HA s f b fd ⟨n,cM,dv,unit,count⟩ .ready none u1 u2 u3 u4 R,[]⟩) hf ha rfl rfl ?_;repeat' first|apply LL|apply aj|apply LM|apply LN|(apply LO;rfl;rfl)
 refine uR rfl ?_;clear h hf ha;cases cM with
 | false=>
  cases dv with
  | false=>
   cases right with
   | false=>
    repeat' first|(apply MO (m:=min x 99);rfl;rfl;first|exact hm|exact hm2)|apply LL|apply aj|apply LM|apply LN|apply LW|apply LU|apply aZ|(apply LS;rfl)|(apply LR;rfl)|(apply Mj;rfl)|(apply Mf;rfl)|(apply Ml;rfl)|(apply Md;rfl;rfl)|(apply LZ;rfl;rfl)|(apply Mc;rfl;rfl)|(apply Mb;rfl;rfl)|(apply Ma;rfl;rfl)|(apply Mk;rfl;rfl;omega)|(apply Mr;rfl;rfl;rfl)|(apply Me;rfl;rfl;rfl)|(apply LK;rfl;rfl)|(apply LO;rfl;rfl)|(intro _;omega)|intro _
    all_goals try omega
    all_goals refine⟨_,_,_,_,rfl,rfl,?_⟩
    all_goals rw[fe rfl (by simp only[ae.put,List.length_set];exact Nat.le_refl _)]
    all_goals refine h' (IntKind.i64.wrap (n+IntKind.i64.wrap (min x 99*unit))) _ _ (IntKind.i64.wrap (unit*60)) (count+1) _ _ _ _ _ (iP rfl ?_)
    all_goals (dsimp only at *;simp only[Bool.true_or,Bool.false_or];try ((split <;> try split) <;> first|rfl|(omega)|(rw[decide_eq_true (by omega)])|(rw[decide_eq_false (by omega)])))
   | true=>
    repeat' first|(apply MO (m:=min x 99);rfl;rfl;first|exact hm|exact hm2)|apply LL|apply aj|apply LM|apply LN|apply LW|apply LU|apply aZ|(apply LS;rfl)|(apply LR;rfl)|(apply Mj;rfl)|(apply Mf;rfl)|(apply Ml;rfl)|(apply Md;rfl;rfl)|(apply LZ;rfl;rfl)|(apply Mc;rfl;rfl)|(apply Mb;rfl;rfl)|(apply Ma;rfl;rfl)|(apply Mk;rfl;rfl;omega)|(apply Mr;rfl;rfl;rfl)|(apply Me;rfl;rfl;rfl)|(apply LK;rfl;rfl)|(apply LO;rfl;rfl)|(intro _;omega)|intro _
    all_goals try omega
    all_goals refine⟨_,_,_,_,rfl,rfl,?_⟩
    all_goals rw[fe rfl (by simp only[ae.put,List.length_set];exact Nat.le_refl _)]
    all_goals refine h' (IntKind.i64.wrap (n+IntKind.i64.wrap (min x 99*unit))) _ _ (IntKind.i64.wrap (unit*60)) (count+1) _ _ _ _ _ (iP rfl ?_)
    all_goals (dsimp only at *;simp only[Bool.true_or,Bool.false_or];try ((split <;> try split) <;> first|rfl|(omega)|(rw[decide_eq_true (by omega)])|(rw[decide_eq_false (by omega)])))
  | true=>
   cases right with
   | false=>
    repeat' first|(apply MO (m:=min x 99);rfl;rfl;first|exact hm|exact hm2)|apply LL|apply aj|apply LM|apply LN|apply LW|apply LU|apply aZ|(apply LS;rfl)|(apply LR;rfl)|(apply Ml;rfl)|(apply Mm;rfl)|(apply MA;rfl)|(apply Mc;rfl;rfl)|(apply Mb;rfl;rfl)|(apply Ma;rfl;rfl)|(apply Mk;rfl;rfl;omega)|(apply Mr;rfl;rfl;rfl)|(apply Me;rfl;rfl;rfl)|(apply LK;rfl;rfl)|(apply LO;rfl;rfl)|(intro _;omega)|intro _
    all_goals try omega
    all_goals refine⟨_,_,_,_,rfl,rfl,?_⟩
    all_goals rw[fe rfl (by simp only[ae.put,List.length_set];exact Nat.le_refl _)]
    all_goals refine h' (IntKind.i64.wrap (n+IntKind.i64.wrap (min x 99*unit))) _ _ (IntKind.i64.wrap (unit*60)) (count+1) _ _ _ _ _ (iP rfl ?_)
    all_goals (dsimp only at *;simp only[Bool.true_or,Bool.false_or];try ((split <;> try split) <;> first|rfl|(omega)|(rw[decide_eq_true (by omega)])|(rw[decide_eq_false (by omega)])))
   | true=>
    repeat' first|(apply MO (m:=min x 99);rfl;rfl;first|exact hm|exact hm2)|apply LL|apply aj|apply LM|apply LN|apply LW|apply LU|apply aZ|(apply LS;rfl)|(apply LR;rfl)|(apply Ml;rfl)|(apply Mm;rfl)|(apply MA;rfl)|(apply Mc;rfl;rfl)|(apply Mb;rfl;rfl)|(apply Ma;rfl;rfl)|(apply Mk;rfl;rfl;omega)|(apply Mr;rfl;rfl;rfl)|(apply Me;rfl;rfl;rfl)|(apply LK;rfl;rfl)|(apply LO;rfl;rfl)|(intro _;omega)|intro _
    all_goals try omega
    all_goals refine⟨_,_,_,_,rfl,rfl,?_⟩
    all_goals rw[fe rfl (by simp only[ae.put,List.length_set];exact Nat.le_refl _)]
    all_goals refine h' (IntKind.i64.wrap (n+IntKind.i64.wrap (min x 99*unit))) _ _ (IntKind.i64.wrap (unit*60)) (count+1) _ _ _ _ _ (iP rfl ?_)
    all_goals (dsimp only at *;simp only[Bool.true_or,Bool.false_or];try ((split <;> try split) <;> first|rfl|(omega)|(rw[decide_eq_true (by omega)])|(rw[decide_eq_false (by omega)])))
 | true=>
  cases dv with
  | false=>
   cases right with
   | false=>
    repeat' first|(apply MO (m:=min x 99);rfl;rfl;first|exact hm|exact hm2)|apply LL|apply aj|apply LM|apply LN|apply LW|apply LU|apply aZ|(apply LS;rfl)|(apply LR;rfl)|(apply Mj;rfl)|(apply Mf;rfl)|(apply Ml;rfl)|(apply Md;rfl;rfl)|(apply LZ;rfl;rfl)|(apply Mc;rfl;rfl)|(apply Mb;rfl;rfl)|(apply Ma;rfl;rfl)|(apply Mk;rfl;rfl;omega)|(apply Mr;rfl;rfl;rfl)|(apply Me;rfl;rfl;rfl)|(apply LK;rfl;rfl)|(apply LO;rfl;rfl)|(intro _;omega)|intro _
    all_goals try omega
    all_goals refine⟨_,_,_,_,rfl,rfl,?_⟩
    all_goals rw[fe rfl (by simp only[ae.put,List.length_set];exact Nat.le_refl _)]
    all_goals refine h' (IntKind.i64.wrap (n+IntKind.i64.wrap (min x 99*unit))) _ _ (IntKind.i64.wrap (unit*60)) (count+1) _ _ _ _ _ (iP rfl ?_)
    all_goals (dsimp only at *;simp only[Bool.true_or,Bool.false_or];try ((split <;> try split) <;> first|rfl|(omega)|(rw[decide_eq_true (by omega)])|(rw[decide_eq_false (by omega)])))
   | true=>
    repeat' first|(apply MO (m:=min x 99);rfl;rfl;first|exact hm|exact hm2)|apply LL|apply aj|apply LM|apply LN|apply LW|apply LU|apply aZ|(apply LS;rfl)|(apply LR;rfl)|(apply Mj;rfl)|(apply Mf;rfl)|(apply Ml;rfl)|(apply Md;rfl;rfl)|(apply LZ;rfl;rfl)|(apply Mc;rfl;rfl)|(apply Mb;rfl;rfl)|(apply Ma;rfl;rfl)|(apply Mk;rfl;rfl;omega)|(apply Mr;rfl;rfl;rfl)|(apply Me;rfl;rfl;rfl)|(apply LK;rfl;rfl)|(apply LO;rfl;rfl)|(intro _;omega)|intro _
    all_goals try omega
    all_goals refine⟨_,_,_,_,rfl,rfl,?_⟩
    all_goals rw[fe rfl (by simp only[ae.put,List.length_set];exact Nat.le_refl _)]
    all_goals refine h' (IntKind.i64.wrap (n+IntKind.i64.wrap (min x 99*unit))) _ _ (IntKind.i64.wrap (unit*60)) (count+1) _ _ _ _ _ (iP rfl ?_)
    all_goals (dsimp only at *;simp only[Bool.true_or,Bool.false_or];try ((split <;> try split) <;> first|rfl|(omega)|(rw[decide_eq_true (by omega)])|(rw[decide_eq_false (by omega)])))
  | true=>
   cases right with
   | false=>
    repeat' first|(apply MO (m:=min x 99);rfl;rfl;first|exact hm|exact hm2)|apply LL|apply aj|apply LM|apply LN|apply LW|apply LU|apply aZ|(apply LS;rfl)|(apply LR;rfl)|(apply Mj;rfl)|(apply Mm;rfl)|(apply MA;rfl)|(apply Mc;rfl;rfl)|(apply Mb;rfl;rfl)|(apply Mk;rfl;rfl;omega)|(apply Mr;rfl;rfl;rfl)|(apply Me;rfl;rfl;rfl)|(apply LK;rfl;rfl)|(apply LO;rfl;rfl)|(intro _;omega)|intro _
    all_goals try omega
    all_goals refine⟨_,_,_,_,rfl,rfl,?_⟩
    all_goals rw[fe rfl (by simp only[ae.put,List.length_set];exact Nat.le_refl _)]
    all_goals refine h' (IntKind.i64.wrap (n+IntKind.i64.wrap (min x 99*unit))) _ _ (IntKind.i64.wrap (unit*60)) (count+1) _ _ _ _ _ (iP rfl ?_)
    all_goals (dsimp only at *;simp only[Bool.true_or,Bool.false_or];try ((split <;> try split) <;> first|rfl|(omega)|(rw[decide_eq_true (by omega)])|(rw[decide_eq_false (by omega)])))
   | true=>
    repeat' first|(apply MO (m:=min x 99);rfl;rfl;first|exact hm|exact hm2)|apply LL|apply aj|apply LM|apply LN|apply LW|apply LU|apply aZ|(apply LS;rfl)|(apply LR;rfl)|(apply Mj;rfl)|(apply Mm;rfl)|(apply MA;rfl)|(apply Mc;rfl;rfl)|(apply Mb;rfl;rfl)|(apply Mk;rfl;rfl;omega)|(apply Mr;rfl;rfl;rfl)|(apply Me;rfl;rfl;rfl)|(apply LK;rfl;rfl)|(apply LO;rfl;rfl)|(intro _;omega)|intro _
    all_goals try omega
    all_goals refine⟨_,_,_,_,rfl,rfl,?_⟩
    all_goals rw[fe rfl (by simp only[ae.put,List.length_set];exact Nat.le_refl _)]
    all_goals refine h' (IntKind.i64.wrap (n+IntKind.i64.wrap (min x 99*unit))) _ _ (IntKind.i64.wrap (unit*60)) (count+1) _ _ _ _ _ (iP rfl ?_)
    all_goals (dsimp only at *;simp only[Bool.true_or,Bool.false_or];try ((split <;> try split) <;> first|rfl|(omega)|(rw[decide_eq_true (by omega)])|(rw[decide_eq_false (by omega)])))
structure kA (M:ay):Prop where
 ft:M.FT=FT
 jx:∀k v r h,M.ext 36 [cW k v r] h=some ⟨.iV (bM k v r),h,[]⟩
 zk:∀v h l,iE h v=some l->l.length<1000->M.ext 96 [v] h=some ⟨.iV (cU l),h,[]⟩
 zo:∀(t:Bool) (e:Int) h,M.ext 97 [.bool t,.iV e] h=some ⟨.iV (if t then e else 0),h,[]⟩
 lQ:∀(s:ah) b h,s.length<1000000->M.ext 163 [.str s,.str [b]] h=some ⟨fk b s,h,[]⟩
 iO:∀(s:ah) h,s.length<1000000->M.ext 121 [.str s] h=some ⟨.ar [.iV (bB s),.bool (decide (0<=bA s))],h,[]⟩
 zy:∀(s:ah) h,s.length<1000000->M.ext 187 [.str s] h=some ⟨.ar [.iV (bB s),.bool (decide (0<=bj s))],h,[]⟩
 lR:∀(s:ah) (lo hi:Nat) h,s.length<1000000->lo<=4->hi<=4->M.ext 188 [.str s,.iV lo,.iV hi] h=some ⟨.ar [.iV (eK s hi),.bool (decide (0<=bF s lo hi))],h,[]⟩
 zz:∀(s:ah) h,s.length<100000->M.ext 229 [.str s,.str [58]] h=some ⟨.vs (strs (aK 58 s)) (aK 58 s).length none,h,[]⟩
 zA:∀ars h,M.ext 189 ars h=none
 zB:∀ars h,M.ext 230 ars h=none
abbrev su (u1 u2 u3 u4 u5 u6:AV):List AV:=[.fn (.yield 8) [] [],.ptr 6 0,.ptr 9 0,.ptr 10 0,u1,u2,u3,u4,u5,u6]
abbrev RB (l:List ah)(st:LoopState)(pend:Option Ex)(u1 u2 u3 u4 u5 u6:AV):ae:=
 [some (.cells [.fn (.yield 8) [] []] 231),some (.cells [.vs (strs l) l.length none] 146),some (.cells [.vs (strs l) l.length none] 146),some .cY,some (.loop st pend (su u1 u2 u3 u4 u5 u6) [(.p 8),(.p 9)] yZ zh)]
theorem Km (L:Nat)(w:ah):bY L 0 w=(decide (0<=bA w) && decide (L<=3)):=rfl
theorem Kn {L i:Nat}(hi:0<i)(w:ah):bY L i w=(decide (0<=bj w) && decide (w.length=2) && decide (L<=3)):=by
 unfold bY bx;rw[if_neg (by omega)];by_cases h2:w.length=2
 . rw[if_pos h2,decide_eq_true h2,Bool.and_true]
 . rw[if_neg h2,decide_eq_false h2,Bool.and_false];rfl
theorem WO.Ko (C:kA M){v:Nat}{g:aq}{args:List aq}{ls:List az}{pe0:List AV}{lo:List (Nat×AV)}{df wr:List Nat}{Q:ak->Prop}{s f b:ah}{fd:Bool}{t:dI}{a1 a2 a3 a4 u1 u2 u3 u4 u5 u6:AV}{l:List ah}{i:Nat}{w:ah}
 (hc:0<=t.count/\t.count<1000000) (hw:w.length<1000000) (hl:l.length<1000000) (hi:i<1000000)
 (hf:(St.mk pe0 lo (HA s f b fd t .ready none a1 a2 a3 a4 (RB l .ready none u1 u2 u3 u4 u5 u6)) df).aa g=some (.fn (.yield 13) [] [])) (ha:(St.mk pe0 lo (HA s f b fd t .ready none a1 a2 a3 a4 (RB l .ready none u1 u2 u3 u4 u5 u6)) df).br args=some [.iV i,.str w])
 (h:∀a1 a2 a3 a4 u1 u2 u3 u4 u5 u6 wr',WO M ls ⟨⟨pe0,(v,.bool true)::lo,HA s f b fd (stepT t (bB w) (bY l.length i w)) .ready none a1 a2 a3 a4 (RB l .ready none u1 u2 u3 u4 u5 u6),df⟩,wr'⟩ Q) :
 WO M (⟨.l v,.call g args,none⟩::ls) ⟨⟨pe0,lo,HA s f b fd t .ready none a1 a2 a3 a4 (RB l .ready none u1 u2 u3 u4 u5 u6),df⟩,wr⟩ Q:=by
 have h':∀right (a1 a2 a3 a4 u1 u2 u3 u4 u5 u6:AV) wr',right=bY l.length i w->WO M ls ⟨⟨pe0,(v,.bool true)::lo,HA s f b fd (stepT t (bB w) right) .ready none a1 a2 a3 a4 (RB l .ready none u1 u2 u3 u4 u5 u6),df⟩,wr'⟩ Q:=
  fun right a1 a2 a3 a4 u1 u2 u3 u4 u5 u6 wr' e=>by rw[e];exact h _ _ _ _ _ _ _ _ _ _ _
 have hx:=rZ w;have q121:=fun h=>C.iO w h hw
 have q187:=fun h=>C.zy w h hw
 have ePut:∀a1 a2 a3 a4 u1 u2 u3 u4 u5 u6 (t:dI),ae.put (HA s f b fd t .ready none a1 a2 a3 a4 (RB l .ready none u1 u2 u3 u4 u5 u6)) 13 (some (.loop .busy none (su u1 u2 u3 u4 u5 u6) [(.p 8),(.p 9)] yZ zh))=HA s f b fd t .ready none a1 a2 a3 a4 (RB l .busy none u1 u2 u3 u4 u5 u6):=fun _ _ _ _ _ _ _ _ _ _ _=>rfl
 refine WO.uQ (s0:=⟨su u1 u2 u3 u4 (.iV i) (.str w),[],HA s f b fd t .ready none a1 a2 a3 a4 (RB l .ready none u1 u2 u3 u4 u5 u6),[]⟩) hf ha rfl rfl ?_;clear h hf ha;repeat' first|apply LL|apply aj|apply LM|apply LN|(apply LO;rfl;rfl)
 refine uR rfl ?_;rw[ePut];by_cases hi0:i=0
 . subst hi0;rw[Km]at h';rw[show ((0:Nat):Int)=0 from rfl];cases hD:decide (0<=bA w) with
   | false=>
    rw[hD]at q121;repeat' first|(refine WO.kz (t:=t) hc hx rfl rfl (fun _ _ _ _ _=>?_))|apply LL|apply aj|apply LM|apply LN|apply LW|apply LU|apply aZ|(apply LR;rfl)|(apply Ml;rfl)|(apply LZ;rfl;rfl)|(apply Ma;rfl;rfl)|(apply LV;rfl;rfl;first|exact q121 _|exact q187 _)|(apply Mr;rfl;rfl;rfl)|(apply LK;rfl;rfl)|(apply LO;rfl;rfl)|(intro _;omega)|intro _
    all_goals try omega
    all_goals refine⟨_,_,_,_,rfl,rfl,?_⟩
    all_goals rw[fe rfl (by simp only[ae.put,List.length_set];exact Nat.le_refl _)]
    all_goals refine h' _ _ _ _ _ _ _ _ _ _ _ _ ?_
    all_goals (rw[hD];rfl)
   | true=>
    rw[hD]at q121;repeat' first|(refine WO.kz (t:=t) hc hx rfl rfl (fun _ _ _ _ _=>?_))|apply LL|apply aj|apply LM|apply LN|apply LW|apply LU|apply aZ|(apply LR;rfl)|(apply Mj;rfl)|(apply MH;rfl;rfl)|(apply LZ;rfl;rfl)|(apply Mb;rfl;rfl)|(apply LV;rfl;rfl;first|exact q121 _|exact q187 _)|(apply Mr;rfl;rfl;rfl)|(apply LK;rfl;rfl)|(apply LO;rfl;rfl)|(intro _;omega)|intro _
    all_goals try omega
    all_goals refine⟨_,_,_,_,rfl,rfl,?_⟩
    all_goals rw[fe rfl (by simp only[ae.put,List.length_set];exact Nat.le_refl _)]
    all_goals refine h' _ _ _ _ _ _ _ _ _ _ _ _ ?_
    all_goals (first|rfl|(rw[hD,Bool.true_and];first|exact(decide_eq_true (by omega)).symm|exact(decide_eq_false (by omega)).symm))
 . rw[Kn (by omega)]at h';cases hF:decide (0<=bA w) <;> rw[hF]at q121;all_goals cases hD:decide (0<=bj w) <;> rw[hD]at q187
   . repeat' first|(refine WO.kz (t:=t) hc hx rfl rfl (fun _ _ _ _ _=>?_))|apply LL|apply aj|apply LM|apply LN|apply LW|apply LU|apply aZ|(apply LS;rfl)|(apply LR;rfl)|(apply Ml;rfl)|(apply LZ;rfl;rfl)|(apply Ma;rfl;rfl)|(apply LV;rfl;rfl;first|exact q121 _|exact q187 _)|(apply Mr;rfl;rfl;rfl)|(apply LK;rfl;rfl)|(apply LO;rfl;rfl)|(intro _;omega)|intro _
     all_goals try omega
     all_goals refine⟨_,_,_,_,rfl,rfl,?_⟩
     all_goals rw[fe rfl (by simp only[ae.put,List.length_set];exact Nat.le_refl _)]
     all_goals refine h' _ _ _ _ _ _ _ _ _ _ _ _ ?_
     all_goals (first|rfl|(rw[hD,Bool.true_and];first|(rw[decide_eq_true (show w.length=2 by omega),Bool.true_and];first|exact(decide_eq_true (by omega)).symm|exact(decide_eq_false (by omega)).symm)|(rw[decide_eq_false (show ¬w.length=2 by omega)];rfl))|(rw[hD];rfl))
   . repeat' first|(refine WO.kz (t:=t) hc hx rfl rfl (fun _ _ _ _ _=>?_))|apply LL|apply aj|apply LM|apply LN|apply LW|apply LU|apply aZ|(apply LS;rfl)|(apply LR;rfl)|(apply Mj;rfl)|(apply Ml;rfl)|(apply MH;rfl;rfl)|(apply LZ;rfl;rfl)|(apply Mc;rfl;rfl)|(apply Mb;rfl;rfl)|(apply Ma;rfl;rfl)|(apply LV;rfl;rfl;first|exact q121 _|exact q187 _)|(apply Mr;rfl;rfl;rfl)|(apply LK;rfl;rfl)|(apply LO;rfl;rfl)|(intro _;omega)|intro _
     all_goals try omega
     all_goals refine⟨_,_,_,_,rfl,rfl,?_⟩
     all_goals rw[fe rfl (by simp only[ae.put,List.length_set];exact Nat.le_refl _)]
     all_goals refine h' _ _ _ _ _ _ _ _ _ _ _ _ ?_
     all_goals (first|rfl|(rw[hD,Bool.true_and];first|(rw[decide_eq_true (show w.length=2 by omega),Bool.true_and];first|exact(decide_eq_true (by omega)).symm|exact(decide_eq_false (by omega)).symm)|(rw[decide_eq_false (show ¬w.length=2 by omega)];rfl))|(rw[hD];rfl))
   . repeat' first|(refine WO.kz (t:=t) hc hx rfl rfl (fun _ _ _ _ _=>?_))|apply LL|apply aj|apply LM|apply LN|apply LW|apply LU|apply aZ|(apply LS;rfl)|(apply LR;rfl)|(apply Ml;rfl)|(apply LZ;rfl;rfl)|(apply Ma;rfl;rfl)|(apply LV;rfl;rfl;first|exact q121 _|exact q187 _)|(apply Mr;rfl;rfl;rfl)|(apply LK;rfl;rfl)|(apply LO;rfl;rfl)|(intro _;omega)|intro _
     all_goals try omega
     all_goals refine⟨_,_,_,_,rfl,rfl,?_⟩
     all_goals rw[fe rfl (by simp only[ae.put,List.length_set];exact Nat.le_refl _)]
     all_goals refine h' _ _ _ _ _ _ _ _ _ _ _ _ ?_
     all_goals (first|rfl|(rw[hD,Bool.true_and];first|(rw[decide_eq_true (show w.length=2 by omega),Bool.true_and];first|exact(decide_eq_true (by omega)).symm|exact(decide_eq_false (by omega)).symm)|(rw[decide_eq_false (show ¬w.length=2 by omega)];rfl))|(rw[hD];rfl))
   . repeat' first|(refine WO.kz (t:=t) hc hx rfl rfl (fun _ _ _ _ _=>?_))|apply LL|apply aj|apply LM|apply LN|apply LW|apply LU|apply aZ|(apply LS;rfl)|(apply LR;rfl)|(apply Mj;rfl)|(apply Ml;rfl)|(apply MH;rfl;rfl)|(apply LZ;rfl;rfl)|(apply Mc;rfl;rfl)|(apply Mb;rfl;rfl)|(apply Ma;rfl;rfl)|(apply LV;rfl;rfl;first|exact q121 _|exact q187 _)|(apply Mr;rfl;rfl;rfl)|(apply LK;rfl;rfl)|(apply LO;rfl;rfl)|(intro _;omega)|intro _
     all_goals try omega
     all_goals refine⟨_,_,_,_,rfl,rfl,?_⟩
     all_goals rw[fe rfl (by simp only[ae.put,List.length_set];exact Nat.le_refl _)]
     all_goals refine h' _ _ _ _ _ _ _ _ _ _ _ _ ?_
     all_goals (first|rfl|(rw[hD,Bool.true_and];first|(rw[decide_eq_true (show w.length=2 by omega),Bool.true_and];first|exact(decide_eq_true (by omega)).symm|exact(decide_eq_false (by omega)).symm)|(rw[decide_eq_false (show ¬w.length=2 by omega)];rfl))|(rw[hD];rfl))
theorem Kp (hft:M.FT=FT)(f:ah)(hp:ae):aG M 189 [.str f] hp ⟨.fn (.func 228) [] [.ptr hp.length 0],hp++[some (.cells [.str f] 9)],[]⟩:=by
 refine lu (by rw[hft];exact JZ) (by simp) ?_;unfold yP;simp only[enter];repeat' first|apply LL|apply aj|apply LM|apply LN|apply LP|(apply LX;rfl;rfl;rfl)|(apply LK;rfl;rfl)|(apply LO;rfl;rfl)
 refine⟨.inr rfl,rfl,_,rfl,?_⟩;simp only[cC];rw[if_neg (by simp[cd,AV.top,bg];omega)];rfl
theorem Kq (hft:M.FT=FT)(v:AV)(l:List ah)(hv:v = .vs (strs l) l.length cap)(hp:ae):aG M 230 [v] hp ⟨.fn (.func 269) [] [.ptr hp.length 0],hp++[some (.cells [v] 146)],[]⟩:=by
 subst hv;refine lu (by rw[hft];exact JX) (by simp) ?_;unfold yN;simp only[enter];repeat' first|apply LL|apply aj|apply LM|apply LN|apply LP|(apply LX;rfl;rfl;rfl)|(apply LK;rfl;rfl)|(apply LO;rfl;rfl)
 refine⟨.inr rfl,rfl,_,rfl,?_⟩;simp only[cC];rw[if_neg (by simp[cd,AV.top,bg];omega)];rfl
def zC (s f b:ah)(fd:Bool)(t:dI)(l:List ah)(r:HR):Prop:=∃a1 a2 a3 a4 u1 u2 u3 u4 u5 u6,r.h=HA s f b fd t .ready none a1 a2 a3 a4 (RB l .ready none u1 u2 u3 u4 u5 u6)
theorem Kr (t:dI)(x:Int)(r:Bool):(stepT t x r).count=t.count+1:=rfl
theorem Ks {l:List ah}{n i:Nat}(h:∀s∈l,s.length<n)(hi:i<l.length):(l[i]!).length<n:=by
 rw[getElem!_pos l i hi];exact h _ (List.getElem_mem hi)
theorem Kt (C:kA M)(s f b:ah)(fd:Bool)(t:dI)(l:List ah)(ht:0<=t.count/\t.count+l.length<1000000)(hl:l.length<1000000)(hw:∀w∈l,w.length<1000000)(a1 a2 a3 a4 u1 u2 u3 u4 u5 u6:AV) :
 iG M 269 [.fn (.yield 13) [] [],.ptr 11 0] (HA s f b fd t .ready none a1 a2 a3 a4 (RB l .ready none u1 u2 u3 u4 u5 u6)) (zC s f b fd (fT l l.length t) l):=by
 refine iG.qw (by rw[C.ft];exact JY) (by simp) ?_;obtain⟨H,hH⟩:∃H,H=HA s f b fd t .ready none a1 a2 a3 a4 (RB l .ready none u1 u2 u3 u4 u5 u6):=⟨_,rfl⟩;have hHl:H.length=14:=by rw[hH];rfl
 unfold yO;simp only[enter];rw[show (HA s f b fd t .ready none a1 a2 a3 a4 (RB l .ready none u1 u2 u3 u4 u5 u6)).length=14 from rfl];repeat' first|apply LL|apply aj|apply LM|apply LN|apply LW|(apply Mw;rfl;rfl;omega)|(apply Mr;rfl;rfl;rfl)|(apply LK;rfl;rfl)|(apply LO;rfl;rfl)
 have loop:∀(n:Nat) (t':dI) a1 a2 a3 a4 u1 u2 u3 u4 u5 u6 lo wr,n<=l.length->0<=t'.count/\t'.count+n<1000000->fT l l.length t=fT l n t' ->
  W M (.loop oG) ⟨⟨[.fn (.yield 13) [] [],.ptr 11 0,.iV ((n:Int)-1)],lo,HA s f b fd t' .ready none a1 a2 a3 a4 (RB l .ready none u1 u2 u3 u4 u5 u6),[]⟩,wr⟩
   (BQ 0 fun e s'=>(e = .normal\/e = .ret)/\∃s'',fg s'.s.bI s'=some s''/\∃vs,dJ s''.s []=some vs/\zC s f b fd (fT l l.length t) l (cC (cd vs) 14 s'')):=by
  intro n;induction n with
  | zero=>
   intro t' a1 a2 a3 a4 u1 u2 u3 u4 u5 u6 lo wr hn hc he;refine W.loop ?_;unfold oG;repeat' first|apply LL|apply aj|apply LM|apply LN|apply Mi|apply bO|apply bR|apply cE|(apply LR;rfl)|(apply Mx;rfl;rfl)|(apply LK;rfl;rfl)|(intro _;omega)|intro _
   refine⟨.inl rfl,_,rfl,_,rfl,?_⟩;rw[fe rfl (by exact Nat.le_refl 14),he];exact⟨_,_,_,_,_,_,_,_,_,_,rfl⟩
  | succ n ih=>
   intro t' a1 a2 a3 a4 u1 u2 u3 u4 u5 u6 lo wr hn hc he;have hs:=Ks hw (i:=n) (by omega);have eI:(((n+1:Nat):Int)-1)=n:=by omega
   rw[eI];refine W.loop ?_;unfold oG;repeat' first|(refine WO.Ko C (t:=t') (l:=l) (i:=n) (w:=l[n]!) ⟨by omega,by omega⟩ hs hl (by omega) rfl rfl (fun _ _ _ _ _ _ _ _ _ _ _=>?_))|apply LL|apply aj|apply LM|apply LN|apply LW|apply LU|apply aZ|(apply LS;rfl)|(apply LR;rfl)|(apply Mx;rfl;rfl)|(apply Mw;rfl;rfl;omega)|(apply Mr;rfl;rfl;rfl)|(apply MB;rfl;rfl;omega)|(apply ML;rfl;exact fun _=>rfl;(first|omega|(simp only[List.length_set];omega)|(simp;omega));decide;rfl;case ia=>infer_instance)|(apply LK;rfl;rfl)|(apply LO;rfl;rfl)|(intro _;omega)|intro _
   exact ji (ih _ _ _ _ _ _ _ _ _ _ _ _ _ (by omega) (by rw[Kr];omega) he)
 exact loop l.length t _ _ _ _ _ _ _ _ _ _ _ _ (Nat.le_refl _) ht rfl
theorem Ku {v:AV}{n:Nat}{s:ak}{P:ae->Prop}(h1:P (s.s.hp.take n))(h2:P s.s.hp):P (cC v n s).h:=by
 unfold cC;split <;> assumption
def zD (s f b:ah)(fd:Bool)(t:dI)(h:ae):Prop:=∃a1 a2 a3 a4,h=HA s f b fd t .ready none a1 a2 a3 a4 []\/∃x1 x2 x3 x4 x5,h=HA s f b fd t .ready none a1 a2 a3 a4 [x1,x2,x3,x4,x5]
theorem oH (c:UInt8):∀(s:ah),∀w∈aK c s,w.length<=s.length
 | [],w,h=>by
  rw[aK,List.mem_singleton]at h;subst h;exact Nat.le_refl _
 | a::s,w,h=>by
  rw[aK]at h;split at h
  . rcases List.mem_cons.1 h with rfl|h
    . exact Nat.zero_le _
    . have:=oH c s w h;simp;omega
  . split at h
    . rw[List.mem_singleton]at h;subst h;simp
    . rename_i x l hx;rcases List.mem_cons.1 h with rfl|h
      . have:=oH c s x (by rw[hx];simp);simp;omega
      . have:=oH c s w (by rw[hx];simp[h]);simp;omega
theorem Kv (c:UInt8)(s:ah):(aK c s).length<=s.length+1:=by
 rw[kj];have:=rJ c s;omega
theorem Kw (C:kA M)(s f b:ah)(fd:Bool)(t:dI)(ht:0<=t.count/\t.count<1000)(hl:f.length<100000)(a1 a2 a3 a4:AV) :
 iG M 228 [.fn (.yield 8) [] [],.ptr 6 0] (HA s f b fd t .ready none a1 a2 a3 a4 []) (fun r=>zD s f b fd (fT (aK 58 f) (aK 58 f).length t) r.h):=by
 have hle:=Kv 58 f;have q229:=fun h=>C.zz f h hl
 have q230:=fun h=>CT.run (fi:=[]) (ca:=[]) (ars:=[.vs (strs (aK 58 f)) (aK 58 f).length none]) (C.zB _ _) (Kq (M:=M) C.ft (.vs (strs (aK 58 f)) (aK 58 f).length none) (aK 58 f) rfl h)
 refine iG.qw (by rw[C.ft];exact Ka) (by simp) ?_;unfold yQ;simp only[enter];rw[show (HA s f b fd t .ready none a1 a2 a3 a4 []).length=9 from rfl];repeat' first|(apply Mr;rfl;rfl;rfl)|(apply Mv;rfl;rfl;rfl;exact⟨rfl,by decide,rfl⟩;rfl)|apply LL|apply aj|apply LM|apply LN|apply LW|(apply Mz;rfl;rfl;first|exact q230 _)|(apply LV;rfl;rfl;first|exact q229 _)|(apply LX;rfl;rfl;rfl)
 refine W.uP (g:=269) (fi:=[]) (ca:=[.ptr 11 0]) rfl ?_;obtain⟨r,hr,hK⟩:=(Kt C s f b fd t (aK 58 f) ⟨ht.1,by omega⟩ (by omega) (fun w hw=>by have:=oH 58 f w hw;omega) a1 a2 a3 a4 bm bm bm bm bm bm).out;refine⟨r,hr,?_⟩;obtain⟨b1,b2,b3,b4,u1,u2,u3,u4,u5,u6,hh⟩:=hK;rw[hh];refine⟨_,_,_,_,_,_,rfl,by simp,?_⟩;repeat' first|apply aZ
 refine⟨.inl rfl,_,rfl,_,rfl,?_⟩;refine Ku (P:=fun h=>zD s f b fd (fT (aK 58 f) (aK 58 f).length t) h) ⟨_,_,_,_,.inl rfl⟩ ⟨_,_,_,_,.inr ⟨_,_,_,_,_,rfl⟩⟩
theorem Kx (K:HR->Prop){v:AV}{s:ak}(hv:v.top=0)(hk:K ⟨v,[],[]⟩):K (cC v ([]:ae).length s):=by
 rw[uS (by rw[hv];exact Nat.zero_le _)]
 . have e1:s.s.hp.take ([]:ae).length=[]:=rfl;have e2:s.wr.filter (· < ([]:ae).length)=[]:=by
    rw[List.filter_eq_nil_iff];intro x _;simp
   rw[e1,e2];exact hk
 . simp only[tight,List.all_eq_true];intro x hx;split <;> simp
theorem iQ {K:ae}{a b c:Int}{e:TypeId}{cap:Option Nat}:iE (K++[some (.cells [.iV a,.iV b,.iV c] e)]) (.sl K.length 0 3 1 cap)=some [a,b,c]:=by
 have h:ae.at (K++[some (.cells [.iV a,.iV b,.iV c] e)]) K.length=some (.cells [.iV a,.iV b,.iV c] e):=cS;simp[iE,kb,h,cut,lr]
theorem Ky {K:ae}{pe:List AV}{lo:List (Nat×AV)}{df wr:List Nat}{d:Nat}(h:K.at d=some .cY):fg [d] ⟨⟨pe,lo,K,df⟩,wr⟩=some ⟨⟨pe,lo,K.put d none,df⟩,d::wr⟩:=by
 simp only[fg,h]
theorem eD {hp:ae}{bu bv:Nat}{Y:Option aP}(hne:bu≠bv):(hp.put bu Y).at bv=hp.at bv:=by
 simp[ae.at,ae.put,List.getElem?_set,hne]
theorem Kz {K:ae}{pe:List AV}{lo:List (Nat×AV)}{df:List Nat}{k r:ah}{v e:Int}{ty:TypeId}(h:K.at 0=some (.cells [.str k,.iV v,.str r] ty))(h1:pe[1]? = some (.ptr 0 0))(h2:pe[2]? = some (.iV e)) :
 dJ ⟨pe,lo,K,df⟩ [.cell 3 true (.p 1),.var (.p 2)]=some [cW k v r,.iV e]:=by
 have e1:(St.mk pe lo K df).aa (.p 1)=some (.ptr 0 0):=h1;have e2:(St.mk pe lo K df).aa (.p 2)=some (.iV e):=h2;simp only[dJ,e1,e2,Option.bind_some,dO,h];rfl
theorem zE (C:kA M){K:ae}{s a3 a4 u1 u2 u3 u4:AV}{fd:Bool}{t:dI}{lo:List (Nat×AV)}{wr:List Nat}(k0:K.at 0=some (.cells [.str [],.iV 0,.str []] 49))(k1:K.at 1=some (.cells [.iV t.n] 3))(k2:K.at 2=some (.cells [.bool t.cM] 4))(k3:K.at 3=some (.cells [.bool t.dv] 4))(k7:K.at 7=some .cY) :
 W M t124 ⟨⟨[s,.ptr 0 0,.iV 0,a3,a4,.bool fd,.ptr 1 0,.ptr 2 0,.ptr 3 0,.ptr 4 0,.ptr 5 0,u1,u2,bm,bm,u3,u4],lo,K,[7]⟩,wr⟩ fun e s'=>(e = .normal\/e = .ret)/\∃s'',fg s'.s.bI s'=some s''/\∃vs,dJ s''.s [.cell 3 true (.p 1),.var (.p 2)]=some vs/\cC (cd vs) ([]:ae).length s''=⟨(fb fd t).av,[],[]⟩:=by
 obtain⟨n,cM,dv,unit,count⟩:=t;have l0:=ni k0;have l7:=ni k7;have q36:=fun h=>C.jx cJ n [] h
 have q97:=C.zo;have q96:∀x y z v h,iE h v=some [x,y,z]->M.ext 96 [v] h=some ⟨.iV (cU [x,y,z]),h,[]⟩:=fun x y z v h e=>C.zk v h _ e (by simp)
 have tp:cU [if !fd || !cM then 25 else 0,if dv then 3 else 0,bM cJ n []]≠0->fb fd ⟨n,cM,dv,unit,count⟩=cK (cU [if !fd || !cM then 25 else 0,if dv then 3 else 0,bM cJ n []]):=fun h=>if_pos h
 have tn:cU [if !fd || !cM then 25 else 0,if dv then 3 else 0,bM cJ n []]=0->fb fd ⟨n,cM,dv,unit,count⟩=⟨cJ,n,[],0⟩:=fun h=>if_neg (fun h'=>h' h)
 have fin:∀(p:PR) (pe:List AV) (H:ae) lo wr,fb fd ⟨n,cM,dv,unit,count⟩=p->H.at 0=some (.cells [.str p.k,.iV p.v,.str p.r] 49)->H.at 7=some .cY->pe[1]? = some (.ptr 0 0)->pe[2]? = some (.iV p.e) ->
  ∃s'',fg [7] ⟨⟨pe,lo,H,[7]⟩,wr⟩=some s''/\∃vs,dJ s''.s [.cell 3 true (.p 1),.var (.p 2)]=some vs/\cC (cd vs) ([]:ae).length s''=⟨(fb fd ⟨n,cM,dv,unit,count⟩).av,[],[]⟩:=fun p pe H lo wr e h0 h7 h1 h2=>
  ⟨_,Ky h7,_,Kz (by rw[eD (by decide)];exact h0) h1 h2,by rw[e];exact Kx (fun r=>r=⟨p.av,[],[]⟩) rfl rfl⟩
 have b0:∀a b:Option aP,0<(K++[a]++[b]).length:=fun a b=>by simp
 unfold t124;cases fd <;> cases cM <;> cases dv
 . repeat' first|(apply Mr;rfl;(first|exact k1|exact aJ k2|exact aJ k3|exact cS|exact aJ cS);rfl)|(apply Mv;rfl;rfl;exact aJ (aJ k0);exact⟨rfl,by decide,rfl⟩;rfl)|(apply MV;rfl;rfl;exact⟨rfl,by decide,rfl⟩;rfl)|(apply Mu;rfl;rfl;(first|(simp only[nca];rfl)|rfl);first|exact q97 _ _ _|exact q36 _|exact q96 _ _ _ _ _ iQ)|apply LL|apply aj|apply LM|apply LN|apply LP|apply LU|apply aF|apply Mo|apply Mp|(apply MD;rfl)|(apply Mq;rfl)|(apply Mt;rfl;rfl;(first|(simp only[nca];rfl)|rfl))|(apply My;rfl)|(apply LS;rfl)|(apply LR;rfl)|(apply Mh;rfl;rfl)|(apply Mb;rfl;rfl)|(apply LY;rfl;rfl;rfl)|(apply LX;rfl;rfl;rfl)|(apply LK;rfl;rfl)|(apply LO;rfl;rfl)|(intro _;omega)|intro _
   all_goals refine⟨.inr rfl,?_⟩
   all_goals first
    | exact fin _ _ _ _ _ (tp (by assumption)) (dN (b0 _ _)) (by rw[eD (by decide)];exact aJ (aJ k7)) rfl rfl
    | exact fin _ _ _ _ _ (tn (by assumption)) (dN (b0 _ _)) (by rw[eD (by decide)];exact aJ (aJ k7)) rfl rfl
 . repeat' first|(apply Mr;rfl;(first|exact k1|exact aJ k2|exact aJ k3|exact cS|exact aJ cS);rfl)|(apply Mv;rfl;rfl;exact aJ (aJ k0);exact⟨rfl,by decide,rfl⟩;rfl)|(apply MV;rfl;rfl;exact⟨rfl,by decide,rfl⟩;rfl)|(apply Mu;rfl;rfl;(first|(simp only[nca];rfl)|rfl);first|exact q97 _ _ _|exact q36 _|exact q96 _ _ _ _ _ iQ)|apply LL|apply aj|apply LM|apply LN|apply LP|apply LU|apply aF|apply Mo|apply Mp|(apply MD;rfl)|(apply Mq;rfl)|(apply Mt;rfl;rfl;(first|(simp only[nca];rfl)|rfl))|(apply My;rfl)|(apply LS;rfl)|(apply LR;rfl)|(apply Mh;rfl;rfl)|(apply Mb;rfl;rfl)|(apply LY;rfl;rfl;rfl)|(apply LX;rfl;rfl;rfl)|(apply LK;rfl;rfl)|(apply LO;rfl;rfl)|(intro _;omega)|intro _
   all_goals refine⟨.inr rfl,?_⟩
   all_goals first
    | exact fin _ _ _ _ _ (tp (by assumption)) (dN (b0 _ _)) (by rw[eD (by decide)];exact aJ (aJ k7)) rfl rfl
    | exact fin _ _ _ _ _ (tn (by assumption)) (dN (b0 _ _)) (by rw[eD (by decide)];exact aJ (aJ k7)) rfl rfl
 . repeat' first|(apply Mr;rfl;(first|exact k1|exact aJ k2|exact aJ k3|exact cS|exact aJ cS);rfl)|(apply Mv;rfl;rfl;exact aJ (aJ k0);exact⟨rfl,by decide,rfl⟩;rfl)|(apply MV;rfl;rfl;exact⟨rfl,by decide,rfl⟩;rfl)|(apply Mu;rfl;rfl;(first|(simp only[nca];rfl)|rfl);first|exact q97 _ _ _|exact q36 _|exact q96 _ _ _ _ _ iQ)|apply LL|apply aj|apply LM|apply LN|apply LP|apply LU|apply aF|apply Mo|apply Mp|(apply MD;rfl)|(apply Mq;rfl)|(apply Mt;rfl;rfl;(first|(simp only[nca];rfl)|rfl))|(apply My;rfl)|(apply LS;rfl)|(apply LR;rfl)|(apply Mh;rfl;rfl)|(apply Mb;rfl;rfl)|(apply LY;rfl;rfl;rfl)|(apply LX;rfl;rfl;rfl)|(apply LK;rfl;rfl)|(apply LO;rfl;rfl)|(intro _;omega)|intro _
   all_goals refine⟨.inr rfl,?_⟩
   all_goals first
    | exact fin _ _ _ _ _ (tp (by assumption)) (dN (b0 _ _)) (by rw[eD (by decide)];exact aJ (aJ k7)) rfl rfl
    | exact fin _ _ _ _ _ (tn (by assumption)) (dN (b0 _ _)) (by rw[eD (by decide)];exact aJ (aJ k7)) rfl rfl
 . repeat' first|(apply Mr;rfl;(first|exact k1|exact aJ k2|exact aJ k3|exact cS|exact aJ cS);rfl)|(apply Mv;rfl;rfl;exact aJ (aJ k0);exact⟨rfl,by decide,rfl⟩;rfl)|(apply MV;rfl;rfl;exact⟨rfl,by decide,rfl⟩;rfl)|(apply Mu;rfl;rfl;(first|(simp only[nca];rfl)|rfl);first|exact q97 _ _ _|exact q36 _|exact q96 _ _ _ _ _ iQ)|apply LL|apply aj|apply LM|apply LN|apply LP|apply LU|apply aF|apply Mo|apply Mp|(apply MD;rfl)|(apply Mq;rfl)|(apply Mt;rfl;rfl;(first|(simp only[nca];rfl)|rfl))|(apply My;rfl)|(apply LS;rfl)|(apply LR;rfl)|(apply Mh;rfl;rfl)|(apply Mb;rfl;rfl)|(apply LY;rfl;rfl;rfl)|(apply LX;rfl;rfl;rfl)|(apply LK;rfl;rfl)|(apply LO;rfl;rfl)|(intro _;omega)|intro _
   all_goals refine⟨.inr rfl,?_⟩
   all_goals first
    | exact fin _ _ _ _ _ (tp (by assumption)) (dN (b0 _ _)) (by rw[eD (by decide)];exact aJ (aJ k7)) rfl rfl
    | exact fin _ _ _ _ _ (tn (by assumption)) (dN (b0 _ _)) (by rw[eD (by decide)];exact aJ (aJ k7)) rfl rfl
 . repeat' first|(apply Mr;rfl;(first|exact k1|exact aJ k2|exact aJ k3|exact cS|exact aJ cS);rfl)|(apply Mv;rfl;rfl;exact aJ (aJ k0);exact⟨rfl,by decide,rfl⟩;rfl)|(apply MV;rfl;rfl;exact⟨rfl,by decide,rfl⟩;rfl)|(apply Mu;rfl;rfl;(first|(simp only[nca];rfl)|rfl);first|exact q97 _ _ _|exact q36 _|exact q96 _ _ _ _ _ iQ)|apply LL|apply aj|apply LM|apply LN|apply LP|apply LU|apply aF|apply Mo|apply Mp|(apply MC;rfl)|(apply Mq;rfl)|(apply Mt;rfl;rfl;(first|(simp only[nca];rfl)|rfl))|(apply My;rfl)|(apply LS;rfl)|(apply LR;rfl)|(apply Mh;rfl;rfl)|(apply Ma;rfl;rfl)|(apply LY;rfl;rfl;rfl)|(apply LX;rfl;rfl;rfl)|(apply LK;rfl;rfl)|(apply LO;rfl;rfl)|(intro _;omega)|intro _
   all_goals refine⟨.inr rfl,?_⟩
   all_goals first
    | exact fin _ _ _ _ _ (tp (by assumption)) (dN (b0 _ _)) (by rw[eD (by decide)];exact aJ (aJ k7)) rfl rfl
    | exact fin _ _ _ _ _ (tn (by assumption)) (dN (b0 _ _)) (by rw[eD (by decide)];exact aJ (aJ k7)) rfl rfl
 . repeat' first|(apply Mr;rfl;(first|exact k1|exact aJ k2|exact aJ k3|exact cS|exact aJ cS);rfl)|(apply Mv;rfl;rfl;exact aJ (aJ k0);exact⟨rfl,by decide,rfl⟩;rfl)|(apply MV;rfl;rfl;exact⟨rfl,by decide,rfl⟩;rfl)|(apply Mu;rfl;rfl;(first|(simp only[nca];rfl)|rfl);first|exact q97 _ _ _|exact q36 _|exact q96 _ _ _ _ _ iQ)|apply LL|apply aj|apply LM|apply LN|apply LP|apply LU|apply aF|apply Mo|apply Mp|(apply MC;rfl)|(apply Mq;rfl)|(apply Mt;rfl;rfl;(first|(simp only[nca];rfl)|rfl))|(apply My;rfl)|(apply LS;rfl)|(apply LR;rfl)|(apply Mh;rfl;rfl)|(apply Ma;rfl;rfl)|(apply LY;rfl;rfl;rfl)|(apply LX;rfl;rfl;rfl)|(apply LK;rfl;rfl)|(apply LO;rfl;rfl)|(intro _;omega)|intro _
   all_goals refine⟨.inr rfl,?_⟩
   all_goals first
    | exact fin _ _ _ _ _ (tp (by assumption)) (dN (b0 _ _)) (by rw[eD (by decide)];exact aJ (aJ k7)) rfl rfl
    | exact fin _ _ _ _ _ (tn (by assumption)) (dN (b0 _ _)) (by rw[eD (by decide)];exact aJ (aJ k7)) rfl rfl
 . repeat' first|(apply Mr;rfl;(first|exact k1|exact aJ k2|exact aJ k3|exact cS|exact aJ cS);rfl)|(apply Mv;rfl;rfl;exact aJ (aJ k0);exact⟨rfl,by decide,rfl⟩;rfl)|(apply MV;rfl;rfl;exact⟨rfl,by decide,rfl⟩;rfl)|(apply Mu;rfl;rfl;(first|(simp only[nca];rfl)|rfl);first|exact q97 _ _ _|exact q36 _|exact q96 _ _ _ _ _ iQ)|apply LL|apply aj|apply LM|apply LN|apply LP|apply LU|apply aF|apply Mo|apply Mp|(apply MC;rfl)|(apply Mq;rfl)|(apply Mt;rfl;rfl;(first|(simp only[nca];rfl)|rfl))|(apply My;rfl)|(apply LS;rfl)|(apply LR;rfl)|(apply Mh;rfl;rfl)|(apply Ma;rfl;rfl)|(apply LY;rfl;rfl;rfl)|(apply LX;rfl;rfl;rfl)|(apply LK;rfl;rfl)|(apply LO;rfl;rfl)|(intro _;omega)|intro _
   all_goals refine⟨.inr rfl,?_⟩
   all_goals first
    | exact fin _ _ _ _ _ (tp (by assumption)) (dN (b0 _ _)) (by rw[eD (by decide)];exact aJ (aJ k7)) rfl rfl
    | exact fin _ _ _ _ _ (tn (by assumption)) (dN (b0 _ _)) (by rw[eD (by decide)];exact aJ (aJ k7)) rfl rfl
 . repeat' first|(apply Mr;rfl;(first|exact k1|exact aJ k2|exact aJ k3|exact cS|exact aJ cS);rfl)|(apply Mv;rfl;rfl;exact aJ (aJ k0);exact⟨rfl,by decide,rfl⟩;rfl)|(apply MV;rfl;rfl;exact⟨rfl,by decide,rfl⟩;rfl)|(apply Mu;rfl;rfl;(first|(simp only[nca];rfl)|rfl);first|exact q97 _ _ _|exact q36 _|exact q96 _ _ _ _ _ iQ)|apply LL|apply aj|apply LM|apply LN|apply LP|apply LU|apply aF|apply Mo|apply Mp|(apply MC;rfl)|(apply Mq;rfl)|(apply Mt;rfl;rfl;(first|(simp only[nca];rfl)|rfl))|(apply My;rfl)|(apply LS;rfl)|(apply LR;rfl)|(apply Mh;rfl;rfl)|(apply Ma;rfl;rfl)|(apply LY;rfl;rfl;rfl)|(apply LX;rfl;rfl;rfl)|(apply LK;rfl;rfl)|(apply LO;rfl;rfl)|(intro _;omega)|intro _
   all_goals refine⟨.inr rfl,?_⟩
   all_goals first
    | exact fin _ _ _ _ _ (tp (by assumption)) (dN (b0 _ _)) (by rw[eD (by decide)];exact aJ (aJ k7)) rfl rfl
    | exact fin _ _ _ _ _ (tn (by assumption)) (dN (b0 _ _)) (by rw[eD (by decide)];exact aJ (aJ k7)) rfl rfl
theorem KA (C:kA M)(s:ah)(hl:s.length<100000):aG M 124 [.str s] [] ⟨(oA s).av,[],[]⟩:=by
 have hs:=yk (b:=46) s;have q163:=fun h=>C.lQ s 46 h (by omega)
 unfold fk at q163;have q188:=fun h=>C.lR ((aT 46 s).2.getD []) 1 4 h (by omega) (by decide) (by decide)
 rw[show ((1:Nat):Int)=1 from rfl,show ((4:Nat):Int)=4 from rfl]at q188;have q189:=fun h=>CT.run (fi:=[]) (ca:=[]) (ars:=[.str (aT 46 s).1]) (C.zA _ _) (Kp (M:=M) C.ft (aT 46 s).1 h)
 have hL:=fun fd a1 a2 a3 a4=>Kw C s (aT 46 s).1 ((aT 46 s).2.getD []) fd (kq ((aT 46 s).2.getD [])) ⟨Int.le_refl _,by show (0:Int)<1000;omega⟩ (by omega) a1 a2 a3 a4
 unfold oA;unfold kq at hL ⊢;generalize (aT 46 s).1=f at *
 generalize hb:(aT 46 s).2.getD []=b at *
 generalize (aT 46 s).2.isSome=fd at *
 generalize decide (0<=bF b 1 4)=D at *
 have:=iG.qw (M:=M) (f:=124) (ars:=[.str s]) (h:=[]) (K:=fun r=>r=⟨(fb fd (fT (aK 58 f) (aK 58 f).length ⟨eK b 4,D,false,10000,0⟩)).av,[],[]⟩) (by rw[C.ft];exact Kb) (by simp) (by
  unfold yR;simp only[enter];repeat' first|(apply Mv;rfl;rfl;rfl;exact⟨rfl,by decide,rfl⟩;rfl)|apply LL|apply aj|apply LM|apply LN|apply LW|(apply Mz;rfl;rfl;first|exact q189 _)|(apply LV;rfl;rfl;first|exact q163 _|exact q188 _)|(apply LX;rfl;rfl;rfl)|(apply LK;rfl;rfl)|(apply LO;rfl;rfl)
  refine W.uP (g:=228) (fi:=[]) (ca:=[.ptr 6 0]) rfl ?_;obtain⟨r,hr,hK⟩:=(hL fd bm bm bm bm).out;refine⟨r,hr,?_⟩;generalize fT (aK 58 f) (aK 58 f).length ⟨eK b 4,D,false,10000,0⟩=t at *
  obtain⟨a1,a2,a3,a4,hh⟩:=hK;clear hL hr;rcases hh with hh|⟨x1,x2,x3,x4,x5,hh⟩;all_goals rw[hh]
  all_goals refine⟨_,_,_,_,_,_,rfl,by simp,?_⟩
  . apply aZ;apply aj;exact zE C rfl rfl rfl rfl rfl
  . apply aZ;apply aj;exact zE C rfl rfl rfl rfl rfl)
 obtain⟨r,hr,rfl⟩:=this.out;exact hr
structure zF (M:ay):Prop where
 ft:M.FT=FT
 zG:∀h,M.ext 18 [] h=some ⟨.bool true,h,[]⟩
 zH:∀k v r h,M.ext 34 [cW k v r] h=some ⟨.bool (decide (k.length<=40/\r.length<=40)),h,[]⟩
 zI:∀k v r h,M.ext 35 [cW k v r] h=some ⟨.iV (bM k v r),h,[]⟩
 zJ:∀k v r h,M.ext 44 [cW k v r] h=some ⟨fS k v r,h,[]⟩
 zK:∀k v r h,bM k v r=0->M.ext 45 [cW k v r] h=some ⟨.str (ox k v r),h,[]⟩
 zM:∀(s:ah) h,s.length<100000->M.ext 46 [.str s] h=some ⟨(cL s).av,h,[]⟩
 zN:∀(s:ah) h,s.length<100000->M.ext 47 [.str s] h=some ⟨(cL s).av,h,[]⟩
theorem w6 (C:zF M)(k:ah)(v:Int)(r s:ah):aG M 6 [cW k v r,.str s] [] ⟨.bool true,[],[]⟩:=by
 refine ba (by rw[C.ft];exact IF) (by simp) ?_;have q18:=C.zG;have q34:=fun h=>C.zH k v r h
 have q35:=fun h=>C.zI k v r h
 have q44:=fun h=>C.zJ k v r h
 unfold b6;simp only[enter];by_cases hb:k.length<=40/\r.length<=40
 . rw[decide_eq_true hb]at q34;by_cases hs:s.length<=60
   . have q46:=fun h=>C.zM s h (by omega)
     have q47:=fun h=>C.zN s h (by omega)
     obtain⟨pk,pv,pr,pe⟩:=cL s;unfold PR.av at q46 q47;by_cases he:bM k v r=0
     . have q45:=fun h=>C.zK k v r h he
       rw[fS,if_neg (fun h=>h he)]at q44;rw[he]at q35;generalize ox k v r=T at *
       repeat' first|apply LL|apply aj|apply LM|apply LN|apply LP|apply LU|(apply LS;rfl)|(apply LR;rfl)|(apply Mj;rfl)|(apply Mf;rfl)|(apply LZ;rfl;rfl)|(apply Mc;rfl;rfl)|(apply Mb;rfl;rfl)|(apply Ma;rfl;rfl)|(apply LV;rfl;rfl;first|exact q18 _|exact q34 _|exact q35 _|exact q44 _|exact q45 _|exact q46 _|exact q47 _)|(apply Mg;rfl;rfl;all_goals first|(intro h;exact absurd h (by decide))|(intro h;exact absurd rfl h)|(intro h;contradiction)|intro _)|(apply Nl;rfl;rfl;all_goals first|(intro h;exact absurd ⟨rfl,rfl,rfl⟩ h)|intro _)|(apply LY;rfl;rfl;rfl)|(apply LX;rfl;rfl;rfl)|(apply Me;rfl;rfl;rfl)|(apply LK;rfl;rfl)|(apply LO;rfl;rfl)|(intro _;omega)|intro _
       all_goals try omega
       all_goals exact⟨.inr rfl,rfl,_,rfl,rfl,rfl⟩
     . rw[fS,if_pos he]at q44;generalize bM k v r=E at *
       repeat' first|apply LL|apply aj|apply LM|apply LN|apply LP|apply LU|(apply LR;rfl)|(apply Mj;rfl)|(apply Mf;rfl)|(apply LZ;rfl;rfl)|(apply Mc;rfl;rfl)|(apply Mb;rfl;rfl)|(apply Ma;rfl;rfl)|(apply LV;rfl;rfl;first|exact q18 _|exact q34 _|exact q35 _|exact q44 _|exact q46 _|exact q47 _)|(apply Mg;rfl;rfl;all_goals first|(intro h;exact absurd h (by decide))|(intro h;exact absurd rfl h)|(intro h;contradiction)|intro _)|(apply Nl;rfl;rfl;all_goals first|(intro h;exact absurd ⟨rfl,rfl,rfl⟩ h)|intro _)|(apply LY;rfl;rfl;rfl)|(apply LX;rfl;rfl;rfl)|(apply Me;rfl;rfl;rfl)|(apply LK;rfl;rfl)|(apply LO;rfl;rfl)|(intro _;omega)|intro _
       all_goals first|(omega)|contradiction|skip
       all_goals exact⟨.inr rfl,rfl,_,rfl,rfl,rfl⟩
   . repeat' first|apply LL|apply aj|apply LM|apply LN|apply LP|apply aF|(apply LS;rfl)|(apply Mf;rfl)|(apply LZ;rfl;rfl)|(apply Ma;rfl;rfl)|(apply LV;rfl;rfl;first|exact q18 _|exact q34 _)|(apply LY;rfl;rfl;rfl)|(apply LX;rfl;rfl;rfl)|(apply LK;rfl;rfl)|(apply LO;rfl;rfl)|(intro _;omega)|intro _
     all_goals try omega
     all_goals exact⟨.inr rfl,rfl,_,rfl,rfl,rfl⟩
 . rw[decide_eq_false hb]at q34;repeat' first|apply LL|apply aj|apply LM|apply LN|apply LP|apply aF|(apply LS;rfl)|(apply Mf;rfl)|(apply Mm;rfl)|(apply Mb;rfl;rfl)|(apply Ma;rfl;rfl)|(apply LV;rfl;rfl;first|exact q18 _|exact q34 _)|(apply LY;rfl;rfl;rfl)|(apply LX;rfl;rfl;rfl)|(apply LK;rfl;rfl)|(apply LO;rfl;rfl)
   all_goals try omega
   all_goals exact⟨.inr rfl,rfl,_,rfl,rfl,rfl⟩
open Go.Proofs
theorem KB {v:AV}{h:ae}{l:List Int}(hl:iE h v=some l)(hn:l.length<1000):jr [v] h=some ⟨.iV (cU l),h,[]⟩:=by
 simp only[jr,hl];rw[if_pos (by omega)]
theorem sv (m:Nat)(h:ae)(hm:m<1000000000):lK [.iV m] h=some ⟨.str (bo m),h,[]⟩:=by
 have e:=Hm m h (by omega);rwa [show fl (m:Int)=bo m by rw[fl,if_neg (by omega)];rfl]at e
noncomputable def zO:List (Nat×Spec):=[(183,lK),(264,rR)]
noncomputable def sw:Spec:=sK zO 225
theorem KC:aQ Tryz.prog gl 225 sw:=bD (aH wZ (aH HD bc))
theorem KD:∀(m L:Nat) h,0<L/\L<=4->m<10^L->sw [.iV m,.iV L] h=some ⟨.str (bz L m),h,[]⟩:=fun m L h hL hm=>
 bC (Jt (M:=bq Tryz.prog FT zO) bw m L hL hm (fun h=>sv m h (Nat.lt_of_lt_of_le hm (Nat.le_trans (Nat.pow_le_pow_right (by decide) hL.2) (by decide)))) (fun k h hk=>HE k h hk)) rfl rfl rfl h
noncomputable def kB:List (Nat×Spec):=[(183,lK),(225,sw)]
theorem sx:cQ Tryz.prog gl (cR kB):=aH wZ (aH KC bc)
theorem zQ:sh (bq Tryz.prog FT kB) where
 ft:=bw
 lT:=sv
 jy:=KD
noncomputable def zU:Spec:=sK kB 180
noncomputable def zV:Spec:=sK kB 181
noncomputable def zW:Spec:=sK kB 182
theorem KE:aQ Tryz.prog gl 180 zU:=bD sx
theorem KF:aQ Tryz.prog gl 181 zV:=bD sx
theorem KG:aQ Tryz.prog gl 182 zW:=bD sx
noncomputable def sy:List (Nat×Spec):=[(36,fR),(113,om),(180,zU),(181,zV),(182,zW)]
theorem KH:cQ Tryz.prog gl (cR sy):=aH oq (aH xH (aH KE (aH KF (aH KG bc))))
theorem KI:yl (bq Tryz.prog FT sy) where
 ft:=bw
 jx:=fun _ _ _ _=>rfl
 yn:=fun _=>rfl
 yp:=fun n h hn=>bC (Jv zQ n hn) rfl rfl rfl h
 yq:=fun n h hn=>bC (Jw zQ n hn) rfl rfl rfl h
 yr:=fun n h hn=>bC (Ju (M:=bq Tryz.prog FT kB) bw n hn (fun h=>sv n h hn)) rfl rfl rfl h
noncomputable def sA:Spec:=sK sy 44
theorem KJ:aQ Tryz.prog gl 44 sA:=bD KH
theorem KK (k:ah)(v:Int)(r:ah):(fS k v r).top=0:=by unfold fS;split <;> rfl
theorem KL (k:ah)(v:Int)(r:ah):bE (fS k v r)=fS k v r:=by unfold fS;split <;> rfl
theorem KM:∀k v r h,sA [cW k v r] h=some ⟨fS k v r,h,[]⟩:=fun k v r h=>bC (Jx KI k v r) rfl (KK k v r) (KL k v r) h
noncomputable def oI:Spec:=sK [] 227
noncomputable def oJ:Spec:=sK [(227,oI)] 186
noncomputable def sB:Spec:=sK [(186,oJ)] 120
theorem KN:aQ Tryz.prog gl 227 oI:=bD bc
theorem KO:aQ Tryz.prog gl 186 oJ:=bD (aH KN bc)
theorem KP:aQ Tryz.prog gl 120 sB:=bD (aH KO bc)
theorem KQ:∀(s:ah) b h,s.length<1000000->sB [.str s,.str [b]] h=some ⟨.ar [.str (if dq b s then s.dropLast else s),.bool (dq b s)],h,[]⟩:=fun s b h hl=>by
 have q227:∀h,oI [.str s,.str [b]] h=some ⟨.bool (dq b s),h,[]⟩:=bC (Jk bw s b hl) rfl rfl rfl;have q186:∀h,oJ [.str s,.str [b]] h=some ⟨.ar [.str (if dq b s then s.dropLast else s),.bool (dq b s)],h,[]⟩:=bC (Jl (M:=bq Tryz.prog FT [(227,oI)]) bw s b hl q227) rfl rfl rfl;exact bC (Jm (M:=bq Tryz.prog FT [(186,oJ)]) bw s b q186) rfl rfl rfl h
theorem KR:∀(s:ah) h,s.length<1000000->km [.str s] h=some ⟨.bool (decide (s≠[]) && s.all bL),h,[]⟩:=fun s h hl=>by
 have q257:∀h,kl [.str s,.str hC] h=some ⟨.str (fQ (eZ s)),h,[]⟩:=bC (wO xh s hl) rfl rfl rfl;exact bC (wR (M:=bq Tryz.prog FT [(257,kl)]) bw s q257) rfl rfl rfl h
noncomputable def zX:List (Nat×Spec):=[(209,km),(214,rP)]
noncomputable def lW:Spec:=sK zX 187
theorem sC:aQ Tryz.prog gl 187 lW:=bD (aH xg (aH Hw bc))
theorem sD:∀(s:ah) h,s.length<1000000->lW [.str s] h=some ⟨.ar [.iV (bB s),.bool (decide (0<=bj s))],h,[]⟩:=fun s h hl=>
 bC (Jn (M:=bq Tryz.prog FT zX) bw s hl (fun h=>KR s h hl) (fun h h0 h1 h2=>Hz s h h0 h1 h2)) rfl rfl rfl h
noncomputable def zY:List (Nat×Spec):=[(187,lW),(164,rO)]
noncomputable def lX:Spec:=sK zY 121
theorem sE:aQ Tryz.prog gl 121 lX:=bD (aH sC (aH Hv bc))
theorem sG:∀(s:ah) h,s.length<1000000->lX [.str s] h=some ⟨.ar [.iV (bB s),.bool (decide (0<=bA s))],h,[]⟩:=fun s h hl=>
 bC (Jo (M:=bq Tryz.prog FT zY) bw s (fun h=>sD s h hl) (fun h=>Hy s h hl)) rfl rfl rfl h
noncomputable def zZ:List (Nat×Spec):=[(187,lW),(95,xE)]
noncomputable def oK:Spec:=sK zZ 188
theorem Aa:aQ Tryz.prog gl 188 oK:=bD (aH sC (aH xI bc))
theorem Ac:∀(s:ah) (lo hi:Nat) h,s.length<1000000->lo<=4->hi<=4->oK [.str s,.iV lo,.iV hi] h=some ⟨.ar [.iV (eK s hi),.bool (decide (0<=bF s lo hi))],h,[]⟩:=fun s lo hi h hl h1 h2=>
 bC (Jp (M:=bq Tryz.prog FT zZ) bw s hl lo hi ⟨h1,h2⟩ (fun h=>sD s h hl) (fun _=>rfl)) rfl rfl rfl h
noncomputable def oL:Spec:=sK [(36,fR)] 122
theorem Ad:aQ Tryz.prog gl 122 oL:=bD (aH oq bc)
theorem Ae:∀k v r h,oL [cW k v r] h=some ⟨(dp k v r).av,h,[]⟩:=fun k v r h=>bC (Jq (M:=bq Tryz.prog FT [(36,fR)]) bw k v r (fun _=>rfl)) rfl rfl rfl h
noncomputable def sH:List (Nat×Spec):=[(36,fR),(163,ob),(121,lX),(188,oK),(122,oL)]
theorem KS:cQ Tryz.prog gl (cR sH):=aH oq (aH xe (aH sE (aH Aa (aH Ad bc))))
theorem KT:CL (bq Tryz.prog FT sH) where
 ft:=bw
 jx:=fun _ _ _ _=>rfl
 lQ:=xf
 iO:=sG
 lR:=Ac
 lS:=Ae
noncomputable def Af:Spec:=sK sH 123
theorem KU:aQ Tryz.prog gl 123 Af:=bD KS
noncomputable def oM:List (Nat×Spec):=[(312,ln .index),(329,ln .count)]
theorem KV:cQ Tryz.prog gl (cR oM):=aH (qj rb) (aH (qj ve) bc)
theorem KW:ky (bq Tryz.prog FT oM) where
 ft:=bw
 rF:=fun _ _=>rfl
 rG:=fun _ _=>rfl
 rH:=fun _ _ _=>rfl
 yU:=fun _ _=>rfl
 yV:=fun _ _=>rfl
 yW:=fun _ _=>rfl
 yX:=fun _ _ _=>by rw[EJ];rfl
noncomputable def sI:Spec:=sK oM 229
theorem KX:aQ Tryz.prog gl 229 sI:=bD KV
theorem KY (l:List ah)(n:Nat)(cp:Option Nat):(AV.vs (strs l) n cp).top=0:=iB (f:=sF) (fun _=>rfl) l
theorem KZ:∀(s:ah) h,s.length<100000->sI [.str s,.str [58]] h=some ⟨.vs (strs (aK 58 s)) (aK 58 s).length none,h,[]⟩:=fun s h hl=>by
 have hr:=Kj KW s 58 (by omega);have hh:kg (bq Tryz.prog FT oM) 229 [.str s,.str [58]] (.vs (strs (aK 58 s)) (aK 58 s).length none):=by
  refine⟨_,_,?_,hr⟩;generalize aK 58 s=A;have hc:=qo (f:=sF) (esz:=1) (fun _=>rfl) (l:=A) (i:=0) (n:=A.length) (by omega);rw[List.drop_zero,List.take_length]at hc;have hc':cut (arr sF A) 0 (A.length*1)=some (arr sF A):=by simpa using hc
  refine⟨.vs (arr sF A) A.length none,.sl rfl hc' rfl (fun i x y hx hy=>?_),?_,?_⟩
  . rw[hx]at hy;cases hy;exact .same (by
     have:=dR (n:=0) (by have:=iB (f:=sF) (fun _=>rfl) A;omega) i x hx;omega)
  . exact KY A _ _
  . simp only[bE];rw[nA (f:=sF) (fun _=>rfl) A];rfl
 exact hh.eq rfl
noncomputable def sJ:List (Nat×Spec):=[(36,fR),(96,jr),(97,nF),(163,ob),(121,lX),(187,lW),(188,oK),(229,sI)]
theorem La:cQ Tryz.prog gl (cR sJ):=aH oq (aH vo (aH vn (aH xe (aH sE (aH sC (aH Aa (aH KX bc)))))))
theorem Lb:kA (bq Tryz.prog FT sJ) where
 ft:=bw
 jx:=fun _ _ _ _=>rfl
 zk:=fun v h l hl hn=>KB hl hn
 zo:=fun _ _ _=>rfl
 lQ:=xf
 iO:=sG
 zy:=sD
 lR:=Ac
 zz:=KZ
 zA:=fun _ _=>rfl
 zB:=fun _ _=>rfl
noncomputable def sL:Spec:=sK sJ 124
theorem Lc:aQ Tryz.prog gl 124 sL:=bD La
theorem Ld:∀(s:ah) h,s.length<100000->sL [.str s] h=some ⟨(gj s).av,h,[]⟩:=fun s h hl=>by
 rw[←JN s];exact bC (KA Lb s hl) rfl rfl rfl h
noncomputable def sM:List (Nat×Spec):=[(112,iN),(120,sB),(121,lX),(122,oL),(123,Af),(124,sL)]
theorem Le:cQ Tryz.prog gl (cR sM):=aH xF (aH KP (aH sE (aH Ad (aH KU (aH Lc bc)))))
theorem Lf:yF (bq Tryz.prog FT sM) where
 ft:=bw
 yG:=fun _ _=>rfl
 ss:=KQ
 iO:=sG
 lS:=Ae
 yH:=fun s h hl=>bC (Jr KT s hl) rfl rfl rfl h
 yI:=fun s h hl=>Ld s h (by omega)
noncomputable def sN:Spec:=sK sM 46
theorem Lg:aQ Tryz.prog gl 46 sN:=bD Le
theorem Lh:∀(s:ah) h,s.length<100000->sN [.str s] h=some ⟨(cL s).av,h,[]⟩:=fun s h hl=>bC (JR Lf s (by omega)) rfl rfl rfl h
noncomputable def lY:Spec:=sK [] 117
theorem Ag:aQ Tryz.prog gl 117 lY:=bD bc
theorem Li:∀(n L:Nat) h,1<=L/\L<=4->n<10^L->lY [.iV n,.iV L] h=some ⟨.str (bz L n),h,[]⟩:=fun n L h hL hn=>bC (IM bw n L hL hn) rfl rfl rfl h
noncomputable def lZ:Spec:=sK [(117,lY)] 119
theorem Ah:aQ Tryz.prog gl 119 lZ:=bD (aH Ag bc)
theorem Ai:∀(n L:Nat) h,0<L/\L<=4->n<10^L->lZ [.iV n,.iV L] h=some ⟨.str (bz L n),h,[]⟩:=fun n L h hL hn=>
 bC (IP (M:=bq Tryz.prog FT [(117,lY)]) bw n L (fun h=>Li n L h hL hn)) rfl rfl rfl h
noncomputable def sO:Spec:=sK [(119,lZ)] 118
theorem Lj:aQ Tryz.prog gl 118 sO:=bD (aH Ah bc)
theorem Lk:∀(n:Nat) h,n<100->sO [.iV n] h=some ⟨.str (bz 2 n),h,[]⟩:=fun n h hn=>
 bC (IQ (M:=bq Tryz.prog FT [(119,lZ)]) bw n (fun h=>Ai n 2 h (by decide) hn)) rfl rfl rfl h
noncomputable def sP:List (Nat×Spec):=[(117,lY),(118,sO),(119,lZ)]
theorem Ll:cQ Tryz.prog gl (cR sP):=aH Ag (aH Lj (aH Ah bc))
theorem Lm:yt (bq Tryz.prog FT sP) where
 ft:=bw
 kp:=fun n h hn=>bC (IN bw n (by omega)) rfl rfl rfl h
 lU:=Lk
 si:=Ai
noncomputable def Aj:Spec:=sK sP 45
theorem Ln:aQ Tryz.prog gl 45 Aj:=bD Ll
noncomputable def jA:Spec:=sK [] 129
theorem sQ:aQ Tryz.prog gl 129 jA:=bD bc
theorem sR:∀(s:ah) h,s.length<1000000->jA [.str s] h=some ⟨.iV (bj s),h,[]⟩:=fun s h hl=>bC (IS bw s hl) rfl rfl rfl h
noncomputable def Ak:Spec:=sK [(129,jA)] 125
noncomputable def Al:Spec:=sK [(129,jA)] 128
theorem Lo:aQ Tryz.prog gl 125 Ak:=bD (aH sQ bc)
theorem Lp:aQ Tryz.prog gl 128 Al:=bD (aH sQ bc)
noncomputable def Am:Spec:=sK [(35,fR)] 126
theorem Lq:aQ Tryz.prog gl 126 Am:=bD (aH xJ bc)
noncomputable def An:Spec:=sK [] 127
theorem Lr:aQ Tryz.prog gl 127 An:=bD bc
noncomputable def sS:List (Nat×Spec):=[(109,iN),(125,Ak),(126,Am),(127,An),(128,Al),(129,jA)]
theorem Ls:cQ Tryz.prog gl (cR sS):=aH xG (aH Lo (aH Lq (aH Lr (aH Lp (aH sQ bc)))))
theorem Lt:sq (bq Tryz.prog FT sS) where
 ft:=bw
 yC:=fun _ _=>rfl
 oB:=fun s h hl=>bC (IT (M:=bq Tryz.prog FT [(129,jA)]) bw s hl (fun h=>sR s h hl)) rfl rfl rfl h
 oC:=fun k v r h=>bC (Jz (M:=bq Tryz.prog FT [(35,fR)]) bw k v r (fun _=>rfl)) rfl rfl rfl h
 oD:=fun s c h hl=>(IV (M:=bq Tryz.prog FT []) bw s c hl).eq rfl
 sr:=fun s lo hi h hl h1 h2=>bC (Jy (M:=bq Tryz.prog FT [(129,jA)]) bw s hl lo hi ⟨h1,h2⟩ (fun h=>sR s h hl)) rfl rfl rfl h
 yD:=sR
noncomputable def Ao:Spec:=sK sS 47
theorem Lu:aQ Tryz.prog gl 47 Ao:=bD Ls
noncomputable def sV:List (Nat×Spec):=[(18,rU),(34,rV),(35,fR),(44,sA),(45,Aj),(46,sN),(47,Ao)]
theorem Lv:cQ Tryz.prog gl (cR sV):=aH It (aH Is (aH xJ (aH KJ (aH Ln (aH Lg (aH Lu bc))))))
theorem Lw:zF (bq Tryz.prog FT sV) where
 ft:=bw
 zG:=fun _=>rfl
 zH:=fun _ _ _ _=>rfl
 zI:=fun _ _ _ _=>rfl
 zJ:=KM
 zK:=fun k v r h he=>bC (JA Lm k v r he) rfl rfl rfl h
 zM:=Lh
 zN:=fun s h hl=>bC (JQ Lt s hl) rfl rfl rfl h
end Go.Ab.Ch1
