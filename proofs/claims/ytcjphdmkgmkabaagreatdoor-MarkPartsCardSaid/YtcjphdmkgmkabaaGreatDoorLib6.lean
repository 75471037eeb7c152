/-
  Own work: the contracts of the reference's numbers as tables.
-/
import Derived.Test.YtcjphdmkgmkabaaGreatDoorLib5
import Derived.Test.YtcjphdmkgmkabaaGreatDoorCh1Base
import Derived.Test.YtcjphdmkgmkabaaGreatDoorLib2
set_option maxHeartbeats 8000000
set_option maxRecDepth 20000
namespace Go.Ab.Ch1
open Go.Proofs Go.Ab.aY
theorem cm.top {x:AV}{l:List Int}(h:cm x l):x.top=0:=(tf x h).2.1
theorem cG.top {v:AV}{z:Int}(h:cG v z):v.top=0:=by
 obtain⟨_,x,_,rfl,_,_,ht,_⟩:=h.shape;simp[AV.top,bk,ht]
theorem Ni {x y:AV}{l m:List Int}(h:ab)(hx:cm x l)(hy:cm y m)(o1:okW dB l)(o2:okW dB m)(n1:az l)(n2:az m)(l1:l.length<1000000)(l2:m.length<1000000):ye [x,y] h=some ⟨.iV (bD (WV dB l-WV dB m)),h,[]⟩:=
 pL (Mg bj l m o1 o2 n1 n2 (by omega) (by omega)) rfl rfl rfl (.cons hx.gB (.cons hy.gB .nil))
theorem yt (x:AV)(a b:List Int)(hx:cm x a)(o1:okW dB a)(o2:okW dB b)(n1:az a)(n2:az b)(l1:a.length<100000)(l2:b.length<100000)(hb:b≠[]) :
 ∃qv q rv r,cm qv q/\cm rv r/\okW dB q/\az q/\okW dB r/\az r/\WV dB q=WV dB a/WV dB b/\WV dB r=WV dB a%WV dB b/\∀h,oM [x,.vs (aj b) b.length none] h=some ⟨.aq [qv,rv],h,[]⟩:=by
 rcases hx with rfl|⟨rfl,rfl⟩
 . obtain⟨q,r,⟨h1,h2,h3⟩,⟨h4,h5,h6⟩,v,hh,⟨v1,x,y,f,t,k,i1,i2⟩,hr⟩:=Mo (c1:=none) (c2:=none) MA a b o1 o2 n1 n2 l1 l2 hb;exact⟨x,q,y,r,i1,i2,h1,h2,h4,h5,h3,h6,fun h=>rF ⟨v,hh,v1,hr,f,fq (fc a) (fc b),t,k⟩⟩
 . have bp:=(iu (b:=dB) (by decide) o2 n2).2 hb;have e:bD (WV dB []-WV dB b) = -1:=if_pos (by show (0:Int)-WV dB b<0;omega);refine⟨.ae,[],.ae,[],.inr ⟨rfl,rfl⟩,.inr ⟨rfl,rfl⟩,o1,n1,o1,n1,(Int.zero_ediv _).symm,(Int.zero_emod _).symm,fun h=>?_⟩;refine bP (adG (M:=aX Tryz.prog FT yf) (c2:=none) bj b fun h=>?_) (fq rfl (fc b)) rfl rfl h;rw[←e];exact Ni h (.inr ⟨rfl,rfl⟩) (.inl rfl) o1 o2 n1 n2 (by show (0:Nat)<_;omega) (by omega)
theorem cCg:MU (aX Tryz.prog FT [(195,oM)]) where
 ft:=bj
 ja:=yt
theorem Nj {x y:AV}(a b:List Int)(hx:cm x a)(hy:cm y b)(oa:okW dB a)(ob:okW dB b)(na:az a)(nb:az b)(la:a.length<100000)(lb:b.length<100000):∃gv g,cm gv g/\okW dB g/\az g/\WV dB g=(Int.gcd (WV dB a) (WV dB b):Nat)/\g.length<100000/\∀h,yg [x,y] h=some ⟨gv,h,[]⟩:=by
 obtain⟨gv,g,h1,h2,h3,h4,h5,hr⟩:=adH cCg a b hx hy oa ob na nb la lb;exact⟨gv,g,h1,h2,h3,h4,h5,dx hr (fq hx.top hy.top)⟩
noncomputable def Nk:Spec:=sL [] 254
theorem aeg:aS Tryz.prog gl 254 Nk:=iX bx
noncomputable def yu:List (Nat×Spec):=[(254,Nk)]
theorem Nl:cA Tryz.prog gl (bm yu):=aP aeg bx
theorem Nm:Ei (aX Tryz.prog FT yu) where
 ft:=bj
 yj:=fun a c i h hi=>pL (ado (M:=aX Tryz.prog FT []) (c1:=c) bj a i hi) rfl rfl rfl (.cons (yd a) (.cons (.atom rfl) .nil))
 dK:=fun _ _=>rfl
noncomputable def Ev:Spec:=sL yu 206
noncomputable def Nn:Spec:=sL yu 219
noncomputable def tj:Spec:=sK [] 196
theorem No:aS Tryz.prog gl 206 Ev:=iX Nl
theorem aeh:aS Tryz.prog gl 219 Nn:=iX Nl
theorem Ew:aS Tryz.prog gl 196 tj:=bg bx
theorem yw:∀neg x l,cm x l->okW dB l->l.length<1000000000->∃v0,cG v0 (bO neg (WV dB l))/\∀h,tj [.bool neg,x] h=some ⟨v0,h,[]⟩:=fun neg x l hx ok hl=>by
 obtain⟨v0,h1,h2⟩:=adt (M:=aX Tryz.prog FT []) bj (fun _ _=>rfl) neg hx ok hl;exact⟨v0,h1,dx h2 (fq rfl hx.top)⟩
noncomputable def Ey:List (Nat×Spec):=[(206,Ev),(219,Nn),(218,ye),(197,DX),(196,tj)]
theorem aei:cA Tryz.prog gl (bm Ey):=aP No (aP aeh (aP My (aP Mz (aP Ew bx))))
theorem Np:MN (aX Tryz.prog FT Ey) where
 ft:=bj
 ti:=fun l m k1 k2 o1 o2 l1 l2=>by
  obtain⟨r,⟨h1,h2,h3⟩,v,hh,⟨v1,f,t,k⟩,hr⟩:=adq (c1:=k1) (c2:=k2) Nm l m o1 o2 l1 l2;exact⟨r,h1,h2,h3,fun x y h hx hy=>lh (.cons hx (.cons hy .nil)) ⟨v,hh,v1,hr,f,t,k⟩⟩
 adu:=fun l m o1 o2 n1 n2 l1 l2 hle=>by
  have hlen:m.length<=l.length:=fQ (b:=dB) (by decide) o2 n2 (Int.lt_of_le_of_lt hle (dr (by decide) o1));obtain⟨r,⟨h1,h2,h3⟩,v,hh,⟨v1,f,t,k⟩,hr⟩:=adr (c1:=none) (c2:=none) Nm l m o1 o2 l1 hlen hle;exact⟨r,h1,h2,h3,fun x y h hx hy=>lh (.cons hx.gB (.cons hy.gB .nil)) ⟨v,hh,v1,hr,f,t,k⟩⟩
 xZ:=fun l m x y h o1 o2 n1 n2 l1 l2 hx hy=>Ni h hx hy o1 o2 n1 n2 l1 l2
 tg:=fun l m o1 o2 l1 l2=>by
  by_cases h0:0<l.length+m.length
  . obtain⟨r,⟨h1,h2,h3⟩,v,hh,⟨v1,f,t,k⟩,hr⟩:=Mj (M:=aX Tryz.prog FT []) (c1:=none) (c2:=none) bj (fun _ _=>rfl) l m o1 o2 (by omega) (by omega) h0;exact⟨r,h1,h2,h3,fun x y h hx hy=>lh (.cons hx.gB (.cons hy.gB .nil)) ⟨v,hh,v1,hr,f,t,k⟩⟩
  . obtain⟨rfl,rfl⟩:l=[]/\m=[]:=⟨List.eq_nil_of_length_eq_zero (by omega),List.eq_nil_of_length_eq_zero (by omega)⟩;obtain⟨r,⟨h1,h2,h3⟩,v,hh,⟨v1,f,t,k⟩,hr⟩:=aee (M:=aX Tryz.prog FT []) (c1:=none) (c2:=none) bj (fun _ _=>rfl);exact⟨r,h1,h2,h3,fun x y h hx hy=>lh (.cons hx.gB (.cons hy.gB .nil)) ⟨v,hh,v1,hr,f,t,k⟩⟩
 jN:=yw
noncomputable def Ez:Spec:=sK Ey 194
theorem aej:aS Tryz.prog gl 194 Ez:=bg aei
theorem Nq {a:AV}{z:Int}(ha:cG a z)(l:ak z<dB^50):∃v0,cG v0 (-z)/\∀h,Ez [a] h=some ⟨v0,h,[]⟩:=by
 obtain⟨v0,h1,h2⟩:=adv Np ha l (by decide);exact⟨v0,h1,dx h2 (gM ha.top)⟩
noncomputable def tk:Spec:=sK [] 117
noncomputable def yx:Spec:=sK [] 139
noncomputable def Nr:Spec:=sK [] 158
noncomputable def yy:Spec:=sK [(117,tk)] 138
theorem Ns:aS Tryz.prog gl 117 tk:=bg bx
theorem Nt:aS Tryz.prog gl 139 yx:=bg bx
theorem aek:aS Tryz.prog gl 158 Nr:=bg bx
theorem Nu:aS Tryz.prog gl 138 yy:=bg (aP Ns bx)
theorem Nv (n:Nat)(h:ab)(hn:n<9223372036854775808):tk [.iV (n:Nat),.iV 1] h=some ⟨.str (aR n),h,[]⟩:=bP (ady bj n hn) rfl rfl rfl h
theorem cTx:MP (aX Tryz.prog FT [(117,tk)]) where
 ft:=bj
 MQ:=fun n h hn=>Nv n h (by omega)
 MR:=fun n h hn=>bP (adz bj n hn) rfl rfl rfl h
theorem EA {a:AV}{z:Int}(h:ab)(ha:cG a z)(l:ak z<dB^50):yy [a] h=some ⟨.str (bL z),h,[]⟩:=bP (adA cTx ha l (by decide)) (gM ha.top) rfl rfl h
theorem Nw (n:Int)(hn : -9223372036854775808<=n/\n<9223372036854775808):∃v0,cG v0 n/\∀h,yx [.iV n] h=some ⟨v0,h,[]⟩:=by
 obtain⟨v0,h1,h2⟩:=adF (M:=aX Tryz.prog FT []) ⟨bj,fun _ _=>rfl,fun _ _=>rfl⟩ n hn;exact⟨v0,h1,dx h2 rfl⟩
noncomputable def yz:List (Nat×Spec):=[(194,Ez),(155,yg),(195,oM),(196,tj),(138,yy)]
theorem Nx:cA Tryz.prog gl (bm yz):=aP aej (aP MB (aP DY (aP Ew (aP Nu bx))))
theorem cFn:yk (aX Tryz.prog FT yz) 50 where
 ft:=bj
 yl:=Nq
 qA:=Nj
 ja:=yt
 jN:=yw
 yn:=EA
noncomputable def EB:Spec:=sK yz 136
theorem aen:aS Tryz.prog gl 136 EB:=bg Nx
theorem aeo {a b:AV}{x y:Int}(h:ab)(ha:cG a x)(hb:cG b y)(la:ak x<dB^50)(lb:ak y<dB^50)(h0:y≠0):EB [a,b] h=some ⟨.str (aQ (Rat.divInt x y)),h,[]⟩:=
 bP (adK cFn (by decide) ha hb la lb h0) (fq ha.top hb.top) rfl rfl h
noncomputable def EC:List (Nat×Spec):=(158,Nr)::(117,tk)::(139,yx)::(136,EB)::yz
theorem aep:cA Tryz.prog gl (bm EC):=aP aek (aP Ns (aP Nt (aP aen Nx)))
theorem cOf:En (aX Tryz.prog FT EC) 50 where
 ft:=bj
 yl:=Nq
 qA:=Nj
 ja:=yt
 jN:=yw
 yn:=EA
 MV:=fun a b h ha hb=>bP (adL bj a b ha hb) rfl rfl rfl h
 Eo:=Nv
 Ep:=Nw
 MW:=aeo
noncomputable def EE:Spec:=sK EC 78
theorem aer:aS Tryz.prog gl 78 EE:=bg aep
theorem k78 (n d:Int)(h:ab)(hn : -9223372036854775808<=n/\n<9223372036854775808)(hd : -9223372036854775808<=d/\d<9223372036854775808)(h0:d≠0):EE [.iV n,.iV d] h=some ⟨.str (aQ (Rat.divInt n d)),h,[]⟩:=
 bP (w78 cOf (by decide) hn hd h0) rfl rfl rfl h
noncomputable def EH:List (Nat×Spec):=[(153,jM),(193,yb),(139,yx)]
noncomputable def EK:Spec:=sK EH 135
theorem aet:aS Tryz.prog gl 135 EK:=bg (aP qB (aP Mu (aP Nt bx)))
theorem aeu (z:Int):preB 45 (bL z)=decide (z<0)/\bJ 45 (bL z)=aR (ak z).toNat:=by
 have h:=xe (z:Rat);rw[yr,Rat.num_intCast,Rat.den_intCast,if_pos rfl]at h;exact h
theorem aev (q:Rat)(hl:(aQ q).length<1000000):∃v1 v2,cG v1 q.num/\cG v2 (q.den:Nat)/\∀h,EK [.str (aQ q)] h=some ⟨.aq [v1,v2],h,[]⟩:=by
 obtain⟨e1,e2,_,_,e3,e4⟩:=yq q;obtain⟨p1,p2⟩:=aeu q.num;obtain⟨d1,d2⟩:=DW (mK q.den);have hk:=xV (aQ q);obtain⟨v1,k1,q1⟩:=yc (bL q.num) (by rw[←e1];omega) (by rw[p2];exact mK _);have k1:=k1.tc;rw[p1,p2,kp]at k1;have en:(if decide (q.num<0)=true then -((ak q.num).toNat:Int) else ((ak q.num).toNat:Int))=q.num:=by
  unfold ak;by_cases h:q.num<0
  . simp only[h,decide_true,if_true];omega
  . simp only[h,decide_false];show ((q.num.toNat:Nat):Int)=_;omega
 rw[en]at k1;have q153:=fun h=>th (aQ q) h hl
 by_cases hd:q.den=1
 . obtain⟨v2,k2,q2⟩:=Nw 1 (by decide);rw[decide_eq_false (fun h=>h hd)]at e3;have es:aQ q=bL q.num:=if_pos hd;refine⟨v1,v2,k1,by rw[hd];exact k2,dx (adI (M:=aX Tryz.prog FT EH) bj (aQ q) hl e3 q153 k1 k2 (by rw[es];exact q1) q2) rfl⟩
 . rw[if_neg hd]at e4;obtain⟨v2,k2,q2⟩:=yc (aR q.den) (by
    have e:(aQ q).length=(bL q.num).length+1+(aR q.den).length:=by
     unfold aQ;rw[if_neg hd,List.length_append,List.length_cons];omega
    omega) (by rw[d2];exact mK _)
   have k2:=k2.tc;rw[d1,d2,kp,if_neg (by decide)]at k2;rw[decide_eq_true hd]at e3;refine⟨v1,v2,k1,k2,dx (Mf (M:=aX Tryz.prog FT EH) bj (aQ q) hl e3 q153 k1 k2 (by rw[e4];exact q1) (by rw[e4];exact q2)) rfl⟩
theorem Ny {k:Nat}{q:Rat}(h:Dq k q)(h0:0<k)(hk:k<=600):(aQ q).length<1000000:=by
 have:=Db (h.lq (N:=601) h0 (by omega));omega
noncomputable def yA:Spec:=sK [] 140
theorem aew:aS Tryz.prog gl 140 yA:=bg bx
theorem aex (q:Rat)(h:ab):yA [.str (aQ q)] h=some ⟨.iV (bD q.num),h,[]⟩:=bP (adT bj q) rfl rfl rfl h
noncomputable def EL:Spec:=sK [(140,yA)] 56
noncomputable def EM:Spec:=sK [(153,jM)] 142
noncomputable def EN:Spec:=sK [(153,jM)] 143
noncomputable def tn:Spec:=sK [(142,EM),(56,EL),(143,EN)] 108
noncomputable def Nz:Spec:=sK [(108,tn)] 75
noncomputable def NA:Spec:=sK [] 38
noncomputable def NB:Spec:=sL [] 72
theorem aey:aS Tryz.prog gl 56 EL:=bg (aP aew bx)
theorem aez:aS Tryz.prog gl 142 EM:=bg (aP qB bx)
theorem aeA:aS Tryz.prog gl 143 EN:=bg (aP qB bx)
theorem aeB:aS Tryz.prog gl 108 tn:=bg (aP aez (aP aey (aP aeA bx)))
theorem aeC:aS Tryz.prog gl 75 Nz:=bg (aP aeB bx)
theorem aeD:aS Tryz.prog gl 38 NA:=bg bx
theorem aeE:aS Tryz.prog gl 72 NB:=iX bx
theorem aeF (q:Rat)(h:ab)(hq:Dq 600 q):tn [.str (aQ q)] h=some ⟨.iV 0,h,[]⟩:=by
 have hl:=Ny hq (by decide) (by decide);have q153:=fun h=>th (aQ q) h hl
 refine bP (adX (M:=aX Tryz.prog FT [(142,EM),(56,EL),(143,EN)]) bj hq (fun h=>?_) (fun h=>?_) (fun h=>?_)) rfl rfl rfl h
 . rw[yr];exact bP (adV (M:=aX Tryz.prog FT [(153,jM)]) bj q153) rfl rfl rfl h
 . have:=bP (w56 (M:=aX Tryz.prog FT [(140,yA)]) bj (q:=(q.num:Rat)) (aex _)) rfl rfl rfl h;rw[Rat.num_intCast]at this;exact this
 . exact bP (adW (M:=aX Tryz.prog FT [(153,jM)]) bj hl q153) rfl rfl rfl h
end Go.Ab.Ch1

/-
  Own work: the code of functions: roots, names, quotients of machine integers.
-/
namespace Go.Ab.Ch1
set_option maxRecDepth 1000000
def NC:al:=.seq (zR [zm 9 3,zm 10 4,zb 11 .lss 9 10] (.cond (.l 11) (.skip) (.exit 0))) (.block 1 (zR [zm 12 3,zm 13 4,zm 14 3,zb 15 .sub 13 14,zc 16 .add 15 1,zc 17 .quo 16 2,zb 18 .add 12 17,zw 5 18] (zR [zm 19 5,zm 20 5,zb 21 .mul 19 20,zm 22 0,zb 23 .leq 21 22] (.cond (.l 23) (.region [zm 24 5,zw 3 24]) (.region [zm 25 5,zc 26 .sub 25 1,zw 4 26])))))
def EO:al:=zR [zi 1 0,zi 2 0] (.seq (zR [zm 7 0,zc 8 .lss 7 0] (.cond (.l 8) (zR [zi 1 0,zi 2 3] (.ret)) (.skip))) (zR [zi 3 0,zi 4 3037000499] (.seq (.block 0 (.loop NC)) (zR [zm 27 3,zw 1 27,zi 2 0] (.ret)))))
theorem ND:FT 51=some ⟨28,[0,2,3,4,5,6],[.var (.p 1),.var (.p 2)],EO⟩:=by kernel_rfl
def NF:al:=.seq (zR [zm 6 2,zm 7 3,zb 8 .lss 6 7] (.cond (.l 8) (.skip) (.exit 0))) (.block 1 (zR [zm 9 2,zm 10 3,zb 11 .add 9 10,zc 12 .add 11 1,zc 13 .quo 12 2,zw 4 13] (zR [zm 14 4,zm 15 4,zb 16 .mul 14 15,zm 17 0,zb 18 .leq 16 17] (.cond (.l 18) (.region [zm 19 4,zw 2 19]) (.region [zm 20 4,zc 21 .sub 20 1,zw 3 21])))))
def NG:al:=zR [zi 1 0] (zR [zi 2 0,zi 3 3037000499] (.seq (.block 0 (.loop NF)) (zR [zm 22 2,zw 1 22] (.ret))))
theorem aeG:FT 81=some ⟨23,[0,2,3,4,5],[.var (.p 1)],NG⟩:=by kernel_rfl
def qE:al:=zR [⟨.p 6,.next (.p 5),none⟩,⟨.l 9,.extract 0 (.p 6),none⟩] (.seq (.cond (.l 9) (.skip) (.exit 0)) (.block 1 (zR [⟨.l 10,.extract 1 (.p 6),none⟩,⟨.l 11,.extract 2 (.p 6),none⟩,zw 2 10,zw 3 11] (zR [zm 12 3,⟨.l 13,.bin .geq (.l 12) (.c (.int .i32 (97))),none⟩,zn 14 13,zg (zm 15 3) 14 true,⟨.l 16,.bin .leq (.l 15) (.c (.int .i32 (122))),some ((.l 14),true)⟩,zp 17 14 16,zn 18 17,zg (zm 19 3) 18 false,⟨.l 20,.bin .geq (.l 19) (.c (.int .i32 (65))),some ((.l 18),false)⟩,zg (zn 21 20) 18 false,zg (zm 22 3) 21 true,⟨.l 23,.bin .leq (.l 22) (.c (.int .i32 (90))),some ((.l 21),true)⟩,zg (zp 24 21 23) 18 false,zP 25 18 24,zw 4 25] (zR [zm 26 4,zu 27 26,zn 28 27,zg (zm 29 2) 28 true,zg (zc 30 .eql 29 0) 28 true,zg (zn 31 30) 28 true,zg (zm 32 3) 31 false,⟨.l 33,.bin .neq (.l 32) (.c (.int .i32 (95))),some ((.l 31),false)⟩,zg (zn 34 33) 31 false,zg (zm 35 3) 34 true,⟨.l 36,.bin .lss (.l 35) (.c (.int .i32 (48))),some ((.l 34),true)⟩,zg (zn 37 36) 34 true,zg (zm 38 3) 37 false,⟨.l 39,.bin .gtr (.l 38) (.c (.int .i32 (57))),some ((.l 37),false)⟩,zg (zP 40 37 39) 34 true,zg (zp 41 34 40) 31 false,zg (zP 42 31 41) 28 true,zp 43 28 42] (.cond (.l 43) (zR [⟨.p 1,.mv (.c (.bool false)),none⟩] (.ret)) (.skip)))))))
def NH:al:=zR [⟨.p 1,.mv (.c (.bool false)),none⟩] (.seq (zR [zm 6 0,⟨.p 5,.range (.l 6),none⟩] (.block 0 (.loop qE))) (zR [zm 44 0,zL 45 44,zc 46 .gtr 45 0,zn 47 46,zg (zm 48 0) 47 true,zg (zL 49 48) 47 true,zg (zc 50 .leq 49 24) 47 true,zp 51 47 50,zw 1 51] (.ret)))
theorem aeH:FT 82=some ⟨52,[0,2,3,4,5,7,8],[.var (.p 1)],NH⟩:=by kernel_rfl
def tp:al:=.seq (zR [zm 14 2,zm 15 0,zL 16 15,zb 17 .lss 14 16] (.cond (.l 17) (.skip) (.exit 0))) (.seq (.block 1 (zR [zm 20 0,zm 21 2,⟨.l 22,.index (.l 20) (.l 21),none⟩,zw 3 22] (zR [zm 23 3,⟨.l 24,.bin .geq (.l 23) (.c (.int .u8 (97))),none⟩,zn 25 24,zg (zm 26 3) 25 true,⟨.l 27,.bin .leq (.l 26) (.c (.int .u8 (122))),some ((.l 25),true)⟩,zp 28 25 27,zn 29 28,zg (zm 30 3) 29 false,⟨.l 31,.bin .geq (.l 30) (.c (.int .u8 (65))),some ((.l 29),false)⟩,zg (zn 32 31) 29 false,zg (zm 33 3) 32 true,⟨.l 34,.bin .leq (.l 33) (.c (.int .u8 (90))),some ((.l 32),true)⟩,zg (zp 35 32 34) 29 false,zP 36 29 35,zw 4 36] (zR [zm 37 4,zu 38 37,zn 39 38,zg (zm 40 2) 39 true,zg (zc 41 .eql 40 0) 39 true,zg (zn 42 41) 39 true,zg (zm 43 3) 42 false,⟨.l 44,.bin .geq (.l 43) (.c (.int .u8 (48))),some ((.l 42),false)⟩,zg (zn 45 44) 42 false,zg (zm 46 3) 45 true,⟨.l 47,.bin .leq (.l 46) (.c (.int .u8 (57))),some ((.l 45),true)⟩,zg (zp 48 45 47) 42 false,zg (zn 49 48) 42 false,zg (zm 50 3) 49 false,⟨.l 51,.bin .eql (.l 50) (.c (.int .u8 (95))),some ((.l 49),false)⟩,zg (zP 52 49 51) 42 false,zg (zu 53 52) 42 false,zg (zP 54 42 53) 39 true,zp 55 39 54] (.cond (.l 55) (zR [⟨.p 1,.mv (.c (.bool false)),none⟩] (.ret)) (.skip)))))) (.region [zm 18 2,zc 19 .add 18 1,zw 2 19]))
def NI:al:=zR [⟨.p 1,.mv (.c (.bool false)),none⟩] (.seq (zR [zm 6 0,zL 7 6,zc 8 .lss 7 1,zn 9 8,zg (zm 10 0) 9 false,zg (zL 11 10) 9 false,zg (zc 12 .gtr 11 24) 9 false,zP 13 9 12] (.cond (.l 13) (zR [⟨.p 1,.mv (.c (.bool false)),none⟩] (.ret)) (.skip))) (.seq (zR [zi 2 0] (.block 0 (.loop tp))) (zR [⟨.p 1,.mv (.c (.bool true)),none⟩] (.ret))))
theorem aeI:FT 83=some ⟨56,[0,2,3,4,5],[.var (.p 1)],NI⟩:=by kernel_rfl
def EP:al:=zR [⟨.p 2,.mv (.c (.str [])),none⟩,zi 3 0] (.seq (zR [zm 6 1,zc 7 .eql 6 0] (.cond (.l 7) (zR [⟨.p 2,.mv (.c (.str [])),none⟩,zi 3 6] (.ret)) (.skip))) (zR [zm 8 0,z1 9 157 8,zm 10 1,z1 11 157 10,z2 12 150 9 11,z1 13 105 12,ze 14 0 13,ze 15 1 13,zw 2 14,zw 3 15] (.ret)))
theorem NJ:FT 77=some ⟨16,[0,1,4,5],[.var (.p 2),.var (.p 3)],EP⟩:=by kernel_rfl
end Go.Ab.Ch1

/-
  Own work: names, in plain Lean.
-/
namespace Go.Ab.Ch1
def yB (c:Int):Bool:=(decide (97<=c) && decide (c<=122)) || (decide (65<=c) && decide (c<=90))
def ET (c:Int):Bool:=yB c || (decide (c=95) || (decide (48<=c) && decide (c<=57)))
def iH (i:Nat)(c:Int):Bool:=if i=0 then yB c else ET c
def iA:an->Nat->Bool
 | [],_=>true
 | b::r,i=>iH i b.toNat && iA r (i+1)
def isName (s:an):Bool:=iA s 0 && decide (0<s.length) && decide (s.length<=24)
theorem NK {s:an}{i:Nat}(h:i<s.length):iA (s.drop i) i=(iH i (s[i]!).toNat && iA (s.drop (i+1)) (i+1)):=by
 rw[List.drop_eq_getElem_cons h,getElem!_pos s i h,iA]
theorem NL {i:Nat}{c:Int}(h:128<=c):iH i c=false:=by
 unfold iH ET yB;split <;> simp <;> omega
theorem EV {i:Nat}{c:Int}:iH i c=true↔((97<=c/\c<=122)\/(65<=c/\c<=90))\/(i≠0/\(c=95\/(48<=c/\c<=57))):=by
 unfold iH ET yB;split <;> simp_all
theorem NM {i:Nat}{c:Int}(h:¬(((97<=c/\c<=122)\/(65<=c/\c<=90))\/(i≠0/\(c=95\/(48<=c/\c<=57))))):iH i c=false:=by
 cases h':iH i c
 . rfl
 . exact absurd (EV.1 h') h
end Go.Ab.Ch1

/-
  Own work: names, roots, quotients of machine integers.
-/
namespace Go.Ab.Ch1
open Go.Ab.aY
variable {M:ax} {cap:Option Nat} {N:Nat}
theorem NN (s:an)(hl:s.length<4611836018427387904){Q:Ex->ao->Prop}:∀(r i:Nat) (a2 a3 a4 a6:AV) (lo:List (Nat×AV)) (wr:List Nat),i+r=s.length ->
 (iA (s.drop i) i=true->∀a2 a3 a4 a6 lo J wr,Q (.exit 0) ⟨⟨[.str s,.bool false,a2,a3,a4,.ptr 0 0,a6],lo,J,[]⟩,wr⟩) ->
 (iA (s.drop i) i=false->∀a2 a3 a4 a6 lo J wr,Q .ret ⟨⟨[.str s,.bool false,a2,a3,a4,.ptr 0 0,a6],lo,J,[]⟩,wr⟩) ->
 W M (.loop qE) ⟨⟨[.str s,.bool false,a2,a3,a4,.ptr 0 0,a6],lo,[]++[some (.iter s i)],[]⟩,wr⟩ Q
 | 0,i,a2,a3,a4,a6,lo,wr,hi,h1,h2=>by
  obtain rfl:i=s.length:=by omega
  refine W.loop ?_;unfold qE;exact gg8
 | r+1,i,a2,a3,a4,a6,lo,wr,hi,h1,h2=>by
  have e:=NK (s:=s) (i:=i) (by omega);have step:∀(c:Nat) (w:Nat),Utf8.decode ⟨s.toArray⟩ i=(c,w)->(iH i c=true->w=1/\iA (s.drop i) i=iA (s.drop (i+1)) (i+1))->(iH i c=false->iA (s.drop i) i=false)->W M (.loop qE) ⟨⟨[.str s,.bool false,a2,a3,a4,.ptr 0 0,a6],lo,[]++[some (.iter s i)],[]⟩,wr⟩ Q:=by
   intro c w hd ht hf;refine W.loop ?_;unfold qE;have go:∀a2 a3 a4 a6 lo wr,iH i c=true->LQ M qE Q .normal ⟨⟨[.str s,.bool false,a2,a3,a4,.ptr 0 0,a6],lo,[]++[some (.iter s (i+w))],[]⟩,wr⟩:=fun a2 a3 a4 a6 lo wr h=>by
    obtain⟨rfl,e1⟩:=ht h;rw[e1]at h1 h2;exact fT (NN s hl r (i+1) _ _ _ _ _ _ (by omega) h1 h2)
   have stop:∀a2 a3 a4 a6 lo J wr,iH i c=false->Q .ret ⟨⟨[.str s,.bool false,a2,a3,a4,.ptr 0 0,a6],lo,J,[]⟩,wr⟩:=fun a2 a3 a4 a6 lo J wr h=>h2 (hf h) _ _ _ _ _ _ _
   repeat' first|(apply ahm;rfl;omega;exact hd)|apply aap|apply aM|apply aaF|apply aaY|apply acS|apply abu|apply abJ|apply cX|apply fx|apply kL|(apply abz;rfl)|(apply abF;rfl)|(apply acY;rfl)|(apply aeP;rfl)|(apply aeM;rfl)|(apply afz;rfl)|(apply afU;rfl)|(apply ada;rfl;rfl)|(apply afy;rfl;rfl)|(apply adU;rfl;rfl)|(apply aeN;rfl;rfl)|(apply adE;rfl;rfl)|(apply aef;rfl;rfl)|(apply acR;rfl;rfl)|(apply adM;rfl;rfl)|(apply aab;rfl;rfl)|(apply aaZ;rfl;rfl)|(intro _;omega)|intro _
   all_goals first
    | exact go _ _ _ _ _ _ (EV.2 (by omega))
    | exact stop _ _ _ _ _ _ _ (NM (by omega))
  by_cases hb:(s[i]!).toNat<128
  . exact step _ _ (RR (by omega) hb) (fun h=>⟨rfl,by rw[e,h,Bool.true_and]⟩) (fun h=>by rw[e,h,Bool.false_and])
  . obtain⟨c,w,hd,hc⟩:=RS (s:=s) (i:=i) (by omega) hb;refine step c w hd (fun h=>?_) (fun _=>?_)
    . rw[NL (by omega)]at h;cases h
    . rw[e,NL (by omega),Bool.false_and]
theorem w82 (hft:M.FT=FT)(s:an)(hl:s.length<4611836018427387904):aT M 82 [.str s] [] ⟨.bool (isName s),[],[]⟩:=by
 refine bH (by rw[hft];exact aeH) (by simp) ?_;unfold NH;simp only[enter];refine gg10 ?_;refine NN s hl s.length 0 _ _ _ _ _ _ (by omega) (fun h a2 a3 a4 a6 lo J wr=>?_) (fun h a2 a3 a4 a6 lo J wr=>?_)
 . rw[List.drop_zero]at h;repeat' first|apply aap|apply aM|apply aaF|apply aaY|apply abu|apply fy|(apply acY;rfl)|(apply aeM;rfl)|(apply afy;rfl;rfl)|(apply adU;rfl;rfl)|(apply acR;rfl;rfl)|(apply adM;rfl;rfl)|(apply aab;rfl;rfl)|(apply aaZ;rfl;rfl)|(intro _;omega)|intro _
   all_goals exact⟨.inr rfl,rfl,_,rfl,congrArg AV.bool (by simp[isName, *] <;> omega),rfl⟩
 . rw[List.drop_zero]at h;exact gg1
theorem NO (s:an)(hl:s.length<1000000){Q:Ex->ao->Prop}:∀(r i:Nat) (a3 a4:AV) (lo:List (Nat×AV)),i+r=s.length ->
 (iA (s.drop i) i=true->∀a3 a4 lo,Q (.exit 0) ⟨⟨[.str s,.bool false,.iV s.length,a3,a4],lo,[],[]⟩,[]⟩) ->
 (iA (s.drop i) i=false->∀a2 a3 a4 lo,Q .ret ⟨⟨[.str s,.bool false,a2,a3,a4],lo,[],[]⟩,[]⟩) ->
 W M (.loop tp) ⟨⟨[.str s,.bool false,.iV i,a3,a4],lo,[],[]⟩,[]⟩ Q
 | 0,i,a3,a4,lo,hi,h1,h2=>by
  obtain rfl:i=s.length:=by omega
  refine W.loop ?_;unfold tp;repeat' first|apply aap|apply aM|apply aaF|apply aaY|apply afA|apply iy|apply nc|(apply abF;rfl)|(apply ada;rfl;rfl)|(apply aab;rfl;rfl)|(intro _;omega)|intro _
  exact h1 (by simp[iA]) _ _ _
 | r+1,i,a3,a4,lo,hi,h1,h2=>by
  have e:=NK (s:=s) (i:=i) (by omega);have ei:((i:Int)).toNat=i:=by omega
  have hc:=(s[i]!).toNat_lt;have go:∀a3 a4 lo,iH i (s[i]!).toNat=true->LQ M tp Q .normal ⟨⟨[.str s,.bool false,.iV ((i:Int)+1),a3,a4],lo,[],[]⟩,[]⟩:=fun a3 a4 lo h=>by
   rw[e,h,Bool.true_and]at h1 h2;exact fT (NO s hl r (i+1) _ _ _ (by omega) h1 h2)
  have stop:∀a3 a4 lo,iH i (s[i]!).toNat=false->Q .ret ⟨⟨[.str s,.bool false,.iV i,a3,a4],lo,[],[]⟩,[]⟩:=fun a3 a4 lo h=>h2 (by rw[e,h,Bool.false_and]) _ _ _ _
  have hv:(St.mk [.str s] [] [] []).aa (.p 0)=some (.str s):=rfl;refine W.loop ?_;unfold tp;rw[←ei]at go stop;repeat' first|apply aap|apply aM|apply aaF|apply aaY|apply acS|apply abu|apply abJ|apply bZ|apply cX|apply fx|apply kL|(apply abz;rfl)|(apply abF;rfl)|(apply acY;rfl)|(apply aeP;rfl)|(apply aeM;rfl)|(apply afz;rfl)|(apply afU;rfl)|(apply ada;rfl;rfl)|(apply afy;rfl;rfl)|(apply aeN;rfl;rfl)|(apply adE;rfl;rfl)|(apply acR;rfl;rfl)|(apply adM;rfl;rfl)|(apply ael;rfl;rfl;omega)|(apply afb;rfl;rfl;omega)|(apply aab;rfl;rfl)|(apply aaZ;rfl;rfl)|(intro _;omega)|intro _
  all_goals first
   | exact go _ _ _ (EV.2 (by omega))
   | exact stop _ _ _ (NM (by omega))
theorem w83 (hft:M.FT=FT)(s:an)(hl:s.length<1000000):aT M 83 [.str s] [] ⟨.bool (isName s),[],[]⟩:=by
 refine bH (by rw[hft];exact aeI) (by simp) ?_;unfold NI;simp only[enter];by_cases hb:s.length<1\/24<s.length
 . exact gg2
 . refine gg10 ?_;refine NO s hl s.length 0 _ _ _ (by omega) (fun h a3 a4 lo=>?_) (fun h a2 a3 a4 lo=>?_)
   . rw[List.drop_zero]at h;exact gg9
   . rw[List.drop_zero]at h;exact gg1
def jO (n r:Int):Prop:=(0<=r/\r<=3037000499)/\r*r<=n/\(r=3037000499\/n<(r+1)*(r+1))
theorem jO.uniq {n r s:Int}(hr:jO n r)(hs:jO n s):r=s:=by
 have key:∀{r s:Int},jO n r->jO n s->¬r<s:=fun {r s} hr hs h=>by
  rcases hr.2.2 with h1|h1
  . have:=hs.1.2;omega
  . have:=Int.mul_le_mul (show r+1<=s by omega) (show r+1<=s by omega) (by have:=hr.1.1;omega) (by have:=hs.1.1;omega);have:=hs.2.1;omega
 have:=key hr hs;have:=key hs hr;omega
theorem NP {m:Int}(h:0<=m/\m<=3037000499):0<=m*m/\m*m<=9223372030926249001:=by
 have:=Int.mul_le_mul h.2 h.2 h.1 (by omega);have:=Int.mul_nonneg h.1 h.1;omega
def mS (n low high:Int):Prop:=(0<=low/\low<=high/\high<=3037000499)/\low*low<=n/\(high=3037000499\/n<(high+1)*(high+1))
theorem mS.up {n low high m:Int}(h:mS n low high)(hm:low<m/\m<=high)(hn:m*m<=n):mS n m high:=by
 obtain⟨h1,h2,h3⟩:=h;exact⟨by omega,hn,h3⟩
theorem mS.down {n low high m:Int}(h:mS n low high)(hm:low<m/\m<=high)(hn:n<m*m):mS n low (m-1):=by
 obtain⟨h1,h2,h3⟩:=h;exact⟨by omega,h2,.inr (by rw[show m-1+1=m by omega];exact hn)⟩
theorem aeL (hft:M.FT=FT){n:Int}(hn:n<0):aT M 51 [.iV n] [] ⟨.aq [.iV 0,.iV 3],[],[]⟩:=by
 refine bH (by rw[hft];exact ND) (by simp) ?_;unfold EO;simp only[enter];exact gg4
theorem w51 (hft:M.FT=FT){n:Int}(hn:0<=n/\n<9223372036854775808):∃r,jO n r/\aT M 51 [.iV n] [] ⟨.aq [.iV r,.iV 0],[],[]⟩:=by
 obtain⟨v,hh,⟨r,hr,rfl,rfl⟩,hrun⟩:=fZ (M:=M) (f:=51) (ars:=[.iV n]) (P:=fun v hh=>∃r,jO n r/\v = .aq [.iV r,.iV 0]/\hh=[]) (by rw[hft];exact ND) (by simp) (by
  unfold EO;simp only[enter];refine gg6 ?_;refine W.fE (fun m st=>∃low high a5 lo wr,st=⟨⟨[.iV n,.iV 0,.iV 0,.iV low,.iV high,a5],lo,[],[]⟩,wr⟩/\m=(high-low).toNat/\mS n low high) (fun m st ⟨low,high,a5,lo,wr,hst,hm,hI⟩=>?_) (m:=3037000499) ⟨0,3037000499,_,_,_,rfl,rfl,by omega,by omega,.inl rfl⟩;subst hst;obtain⟨⟨b1,b2,b3⟩,h2,h3⟩:=id hI;unfold NC;by_cases hlt:low<high
  . obtain⟨q,hq⟩:∃q,q=(high-low+1)/2:=⟨_,rfl⟩;obtain⟨mid,hmid⟩:∃mid,mid=low+q:=⟨_,rfl⟩;have hm:low<mid/\mid<=high:=by omega
    have sq:=NP (m:=mid) (by omega);have up:=fun h=>hI.up hm h
    have dn:=fun h=>hI.down hm h
    rw[hmid]at sq up dn;repeat' first|(apply agl;rfl;rfl;omega;omega;exact hq.symm)|apply aap|apply aM|apply aaF|apply aaY|apply acS|apply abJ|apply cX|(apply abz;rfl)|(apply abF;rfl)|(apply ada;rfl;rfl)|(apply afy;rfl;rfl)|(apply ael;rfl;rfl;omega)|(apply aes;rfl;rfl;omega)|(apply afF;rfl;rfl;omega)|(apply aab;rfl;rfl)|(apply aaZ;rfl;rfl)|(intro _;omega)|intro _
    all_goals try omega
    . exact da ⟨(high-(low+q)).toNat,by omega,_,_,_,_,_,rfl,rfl,up (by assumption)⟩
    . exact da ⟨(low+q-1-low).toNat,by omega,_,_,_,_,_,rfl,rfl,dn (by omega)⟩
  . obtain rfl:low=high:=by omega
    have hR:jO n low:=⟨by omega,h2,h3⟩;repeat' first|apply aap|apply aM|apply aaF|apply aaY|apply abu|apply afA|apply iy|apply fy|apply jS|(apply abF;rfl)|(apply ada;rfl;rfl)|(apply aab;rfl;rfl)|(apply aaZ;rfl;rfl)|(intro _;omega)|intro _
    all_goals try omega
    all_goals exact⟨.inr rfl,rfl,_,rfl,low,hR,rfl,rfl⟩)
 exact⟨r,hr,hrun⟩
theorem w81 (hft:M.FT=FT){n:Int}(hn:0<=n/\n<9223372036854775808):∃r,jO n r/\aT M 81 [.iV n] [] ⟨.iV r,[],[]⟩:=by
 obtain⟨v,hh,⟨r,hr,rfl,rfl⟩,hrun⟩:=fZ (M:=M) (f:=81) (ars:=[.iV n]) (P:=fun v hh=>∃r,jO n r/\v = .iV r/\hh=[]) (by rw[hft];exact aeG) (by simp) (by
  unfold NG;simp only[enter];refine gg3 ?_;refine W.fE (fun m st=>∃low high a4 lo wr,st=⟨⟨[.iV n,.iV 0,.iV low,.iV high,a4],lo,[],[]⟩,wr⟩/\m=(high-low).toNat/\mS n low high) (fun m st ⟨low,high,a4,lo,wr,hst,hm,hI⟩=>?_) (m:=3037000499) ⟨0,3037000499,_,_,_,rfl,rfl,by omega,by omega,.inl rfl⟩;subst hst;obtain⟨⟨b1,b2,b3⟩,h2,h3⟩:=id hI;unfold NF;by_cases hlt:low<high
  . obtain⟨q,hq⟩:∃q,q=(low+high+1)/2:=⟨_,rfl⟩;have hm:low<q/\q<=high:=by omega
    have sq:=NP (m:=q) (by omega);repeat' first|(apply agl;rfl;rfl;omega;omega;exact hq.symm)|apply aap|apply aM|apply aaF|apply aaY|apply acS|apply abJ|apply cX|(apply abz;rfl)|(apply abF;rfl)|(apply ada;rfl;rfl)|(apply afy;rfl;rfl)|(apply ael;rfl;rfl;omega)|(apply aes;rfl;rfl;omega)|(apply afF;rfl;rfl;omega)|(apply aab;rfl;rfl)|(apply aaZ;rfl;rfl)|(intro _;omega)|intro _
    all_goals try omega
    . exact da ⟨(high-q).toNat,by omega,_,_,_,_,_,rfl,rfl,hI.up hm (by assumption)⟩
    . exact da ⟨(q-1-low).toNat,by omega,_,_,_,_,_,rfl,rfl,hI.down hm (by omega)⟩
  . obtain rfl:low=high:=by omega
    have hR:jO n low:=⟨by omega,h2,h3⟩;repeat' first|apply aap|apply aM|apply aaF|apply aaY|apply abu|apply afA|apply iy|apply fy|apply jS|(apply abF;rfl)|(apply ada;rfl;rfl)|(apply aab;rfl;rfl)|(apply aaZ;rfl;rfl)|(intro _;omega)|intro _
    all_goals try omega
    all_goals exact⟨.inr rfl,rfl,_,rfl,low,hR,rfl,rfl⟩)
 exact⟨r,hr,hrun⟩
theorem aeO (hft:M.FT=FT)(n:Int):aT M 77 [.iV n,.iV 0] [] ⟨.aq [.str [],.iV 6],[],[]⟩:=by
 refine bH (by rw[hft];exact NJ) (by simp) ?_;unfold EP;simp only[enter];exact gg1
theorem w77 (hft:M.FT=FT){n d:Int}{v1 v2 v3:AV}{r:an}(h0:d≠0)(q1:∀h,M.ext 157 [.iV n] h=some ⟨v1,h,[]⟩)(q2:∀h,M.ext 157 [.iV d] h=some ⟨v2,h,[]⟩)(q3:∀h,M.ext 150 [v1,v2] h=some ⟨v3,h,[]⟩)(q4:∀h,M.ext 105 [v3] h=some ⟨.aq [.str r,.iV 0],h,[]⟩):aT M 77 [.iV n,.iV d] [] ⟨.aq [.str r,.iV 0],[],[]⟩:=by
 refine bH (by rw[hft];exact NJ) (by simp) ?_;unfold EP;simp only[enter];exact gg5
end Go.Ab.Ch1

/-
  Own work: the reference's integer parts; stadionlaw01.MarkParts answers true.
-/
namespace Go.Ab.Ch1
open Go.Ab.aY
variable {M:ax} {cap:Option Nat} {N:Nat}
structure NQ (M:ax):Prop where
 ft:M.FT=FT
 ja:∀(x:AV) (a b:List Int),cm x a->okW dB a->okW dB b->az a->az b->a.length<100000->b.length<100000->b≠[]->∃qv q rv r,cm qv q/\cm rv r/\okW dB q/\az q/\okW dB r/\az r/\WV dB q=WV dB a/WV dB b/\WV dB r=WV dB a%WV dB b/\∀h,M.ext 195 [x,.vs (aj b) b.length none] h=some ⟨.aq [qv,rv],h,[]⟩
 ti:∀l m k1 k2,okW dB l->okW dB m->l.length<1000000->m.length<1000000->∃r,okW dB r/\WV dB r=WV dB l+WV dB m/\r.length<=l.length+m.length+1/\∀x y h,cT h x (.vs (aj l) l.length k1)->cT h y (.vs (aj m) m.length k2)->M.ext 206 [x,y] h=some ⟨.vs (aj r) r.length none,h,[]⟩
 jN:∀neg x l,cm x l->okW dB l->l.length<1000000000->∃v0,cG v0 (bO neg (WV dB l))/\∀h,M.ext 196 [.bool neg,x] h=some ⟨v0,h,[]⟩
theorem aeQ {h:ab}{b:Nat}{e:TypeId}{cp:Option Nat}(hb:h.at b=some (.cells [.iV 1] e)):cT h (.sl b 0 1 1 cp) (.vs (aj [1]) ([1]:List Int).length none):=
 .sl (m:=aj [1]) hb rfl rfl (xX [1]).2
theorem NR {a b:Int}(hb:0<b):(-a)/b=if a%b=0 then -(a/b) else -(a/b+1):=by
 rw[Int.neg_ediv];have:(b ∣ a)↔a%b=0:=⟨fun h=>Int.emod_eq_zero_of_dvd h,fun h=>Int.dvd_of_emod_eq_zero h⟩;by_cases h:a%b=0
 . rw[if_pos h,if_pos (this.2 h)];omega
 . rw[if_neg h,if_neg (fun k=>h (this.1 k)),Int.sign_eq_one_of_pos hb];omega
theorem aeR (C:NQ M){a b:AV}{za zb:Int}(ha:cG a za)(hb:cG b zb)(la:ak za<dB^N)(lb:ak zb<dB^N)(hN:N<100000)(h0:0<zb):∃v0,cG v0 (za/zb)/\cK M 161 [a,b] v0:=by
 obtain⟨na,x,l,rfl,hx,ol,nl,ll,ea,_,_⟩:=ha.abs la;obtain⟨nb,y,m,rfl,hy,om,nm,lm,eb,_,hn⟩:=hb.abs lb;have m0:=cn (b:=dB) (by decide) om;obtain⟨rfl,hm⟩:nb=false/\m≠[]:=by
  cases nb
  . refine⟨rfl,fun h=>?_⟩;subst h;simp[bO,WV]at eb;omega
  . have:zb = -WV dB m:=eb;omega
 have eb:zb=WV dB m:=eb;obtain rfl:y = .vs (aj m) m.length none:=hy.resolve_right fun h=>hm h.2
 obtain⟨qv,q,rv,r,hq,hr,oq,nq,or_,nr,vq,vr,q195⟩:=C.ja x l m hx ol om nl nm (by omega) (by omega) hm;have lq:q.length<=l.length:=fQ (b:=dB) (by decide) oq nq (Int.lt_of_le_of_lt (by rw[vq];exact Int.ediv_le_self _ (cn (by decide) ol)) (dr (by decide) ol));have hr0:WV dB l%WV dB m=0↔r=[]:=by
  rw[←vr];constructor
  . intro h;refine Decidable.byContradiction fun hne=>?_
    have:=(iu (b:=dB) (by decide) or_ nr).2 hne;omega
  . intro h;rw[h];rfl
 by_cases hc:na=true/\r≠[]
 . obtain⟨rfl,hne⟩:=hc;obtain rfl:rv = .vs (aj r) r.length none:=hr.resolve_right fun h=>hne h.2
   have hrl:=List.length_pos_iff.2 hne;obtain⟨s,os,vs,ls,q206⟩:=C.ti q [1] none none oq (fun z hz=>by rw[List.mem_singleton.1 hz];decide) (by omega) (by decide);have l1:([1]:List Int).length=1:=rfl;obtain⟨v0,k0,q196⟩:=C.jN true _ s (.inl rfl) os (by omega);have e:bO true (WV dB s)=za/zb:=by
    rw[ea,eb];show -WV dB s = -WV dB l/WV dB m;rw[NR (by omega),if_neg (fun h=>hne (hr0.1 h)),vs,vq];rfl
   rw[e]at k0;have q206:=fun b e cp h hb=>q206 qv (.sl b 0 1 1 cp) h hq.gB (aeQ (e:=e) hb)
   refine⟨v0,k0,cI (by rw[C.ft];exact MF) (by simp) ?_⟩;have out:=fun hh=>k0.out (hh:=hh)
   obtain⟨n0,x0,l0,rfl,hx0,o0,_,_⟩:=k0.shape;unfold yh;simp only[enter];exact gg5
 . obtain⟨v0,k0,q196⟩:=C.jN na qv q hq oq (by omega);have e:bO na (WV dB q)=za/zb:=by
    rw[ea,eb,vq];cases na with
    | false=>rfl
    | true=>
     have hre:r=[]:=Decidable.byContradiction fun h=>hc ⟨rfl,h⟩
     show -(WV dB l/WV dB m) = -WV dB l/WV dB m;rw[NR (by have:=(iu (b:=dB) (by decide) om nm).2 hm;omega),if_pos (hr0.2 hre)]
   rw[e]at k0;refine⟨v0,k0,cI (by rw[C.ft];exact MF) (by simp) ?_⟩;have out:=fun hh=>k0.out (hh:=hh)
   obtain⟨n0,x0,l0,rfl,hx0,o0,_,_⟩:=k0.shape;cases na with
   | false=>
    unfold yh;simp only[enter];exact gg5
   | true=>
    obtain rfl:r=[]:=Decidable.byContradiction fun h=>hc ⟨rfl,h⟩
    have l0':([]:List Int).length=0:=rfl;unfold yh;simp only[enter];rcases hr with rfl|⟨rfl,_⟩;all_goals
    . exact gg5
theorem w80 (hft:M.FT=FT){q:Rat}{v1 v2 v3:AV}(hw:q.den=1->aQ q=bL q.num)(k1:cG v1 q.num)(k2:cG v2 (q.den:Nat))(q92:∀h,M.ext 92 [.str (aQ q)] h=some ⟨.bool (decide (q.den=1)),h,[]⟩)(q135:∀h,M.ext 135 [.str (aQ q)] h=some ⟨.aq [v1,v2],h,[]⟩)(q161:∀h,M.ext 161 [v1,v2] h=some ⟨v3,h,[]⟩)(q138:∀h,M.ext 138 [v3] h=some ⟨.str (bL (q.num/q.den)),h,[]⟩):aT M 80 [.str (aQ q)] [] ⟨.str (bL (q.num/q.den)),[],[]⟩:=by
 obtain⟨_,_,_,rfl,_,o1,_⟩:=k1.shape;obtain⟨_,_,_,rfl,_,o2,_⟩:=k2.shape;refine bH (by rw[hft];exact adn) (by simp) ?_;unfold ML;simp only[enter];by_cases h1:q.den=1
 . rw[decide_eq_true h1]at q92;rw[h1,show (q.num/((1:Nat):Int))=q.num from Int.ediv_one _,←hw h1];exact gg0
 . rw[decide_eq_false h1]at q92;exact gg7
end Go.Ab.Ch1

/-
  Own work: stadionlaw01.MarkParts answers true.
-/
namespace Go.Ab.Ch1
open Go.Ab.aY
variable {M:ax} {cap:Option Nat} {N:Nat}
theorem aeT (hft:M.FT=FT)(a:an):aT M 72 [.vs [.str a] 1 cap] [] ⟨.bool (decide (a.length<=60)),[],[]⟩:=by
 refine bH (by rw[hft];exact adY) (by simp) ?_;unfold Nd;simp only[enter];by_cases h:a.length<=60
 . rw[decide_eq_true h];refine gg3 ?_;refine W.loop ?_;unfold Es;refine gg6 ?_;refine fT (W.loop ?_);exact gg4
 . rw[decide_eq_false h];refine gg3 ?_;refine W.loop ?_;unfold Es;exact gg0
theorem Ow {h:ab}{b:Nat}{a:an}{e:TypeId}{cp:Option Nat}(hb:h.at b=some (.cells [.str a] e)):cT h (.sl b 0 1 1 cp) (.vs [.str a] 1 none):=
 .sl (m:=[.str a]) hb rfl rfl fun i x y hx hy=>by
  match i,hx,hy with
  | 0,hx,hy=>cases hx;cases hy;exact .atom rfl
structure NS (M:ax):Prop where
 ft:M.FT=FT
 NT:∀h,M.ext 18 [] h=some ⟨.bool true,h,[]⟩
 NU:∀v h a,cT h v (.vs [.str a] 1 none)->M.ext 72 [v] h=some ⟨.bool (decide (a.length<=60)),h,[]⟩
 NV:∀n h,M.ext 77 [.iV n,.iV 0] h=some ⟨.aq [.str [],.iV 6],h,[]⟩
 NW:∀n d h,-9223372036854775808<=n/\n<9223372036854775808 -> -9223372036854775808<=d/\d<9223372036854775808->d≠0->M.ext 77 [.iV n,.iV d] h=some ⟨.aq [.str (aQ (Rat.divInt n d)),.iV 0],h,[]⟩
 NX:∀n d h,-9223372036854775808<=n/\n<9223372036854775808 -> -9223372036854775808<=d/\d<9223372036854775808->d≠0->M.ext 78 [.iV n,.iV d] h=some ⟨.str (aQ (Rat.divInt n d)),h,[]⟩
 NY:∀s h,s.length<=60->M.ext 62 [.str s] h=some ⟨.iV (gC s),h,[]⟩
 NZ:∀s h,s.length<=60->gC s≠0->M.ext 79 [.str s] h=some ⟨.aq [.str [],.iV (gC s)],h,[]⟩
 Oa:∀p h,Dq 60 p->M.ext 79 [.str (aQ p)] h=some ⟨.aq [.str (aQ (lK p)),.iV 0],h,[]⟩
 Ob:∀p h,Dq 60 p->M.ext 80 [.str (aQ p)] h=some ⟨.str (aQ (lK p)),h,[]⟩
 Oc:∀n h,n<0->M.ext 51 [.iV n] h=some ⟨.aq [.iV 0,.iV 3],h,[]⟩
 Od:∀n,0<=n/\n<9223372036854775808->∃r,(∀h,M.ext 51 [.iV n] h=some ⟨.aq [.iV r,.iV 0],h,[]⟩)/\∀h,M.ext 81 [.iV n] h=some ⟨.iV r,h,[]⟩
 Oe:∀s h,s.length<=60->M.ext 82 [.str s] h=some ⟨.bool (isName s),h,[]⟩
 Of:∀s h,s.length<=60->M.ext 83 [.str s] h=some ⟨.bool (isName s),h,[]⟩
 EW:∀t (e:Int) h,M.ext 25 [.bool t,.iV e] h=some ⟨.iV (if t then e else 0),h,[]⟩
 yC:∀e h,e≠0->M.ext 75 [.str [],.iV e,.iV e,.str []] h=some ⟨.bool true,h,[]⟩
 EX:∀q h,Dq 600 q->M.ext 75 [.str (aQ q),.iV 0,.iV 0,.str (aQ q)] h=some ⟨.bool true,h,[]⟩
 Og:∀e h,e≠0->M.ext 38 [.iV 0,.iV e,.iV e,.iV 0] h=some ⟨.bool true,h,[]⟩
 Oh:∀c h,M.ext 38 [.iV c,.iV 0,.iV 0,.iV c] h=some ⟨.bool true,h,[]⟩
theorem Dq.aX {n d:Int}(hn : -9223372036854775808<=n/\n<9223372036854775808)(hd : -9223372036854775808<=d/\d<9223372036854775808)(h0:d≠0):Dq 600 (Rat.divInt n d):=by
 have e:(10:Int)^20=100000000000000000000:=by decide
 refine Dq.mono (m:=20) ?_ (by decide);rcases Int.lt_or_le 0 d with hp|hp
 . exact .divInt hp (by rw[e];unfold ak;split <;> omega) (by rw[e];omega)
 . rw[←Rat.neg_divInt_neg];exact .divInt (by omega) (by rw[e];unfold ak;split <;> omega) (by rw[e];omega)
theorem w15 (C:NS M)(s a:an){n d:Int}(hn : -9223372036854775808<=n/\n<9223372036854775808)(hd : -9223372036854775808<=d/\d<9223372036854775808):aT M 15 [.str s,.str a,.agg [.iV n,.iV d]] [] ⟨.bool true,[],[]⟩:=by
 refine bH (by rw[C.ft];exact adZ) (by simp) ?_;have q18:=C.NT;have q72:=fun v h hf=>C.NU v h a hf
 unfold Ng;simp only[enter];by_cases hs:s.length<=60
 . by_cases ha:a.length<=60
   . rw[decide_eq_true ha]at q72;have q62:=fun h=>C.NY a h ha
     have q82:=fun h=>C.Oe s h hs
     have q83:=fun h=>C.Of s h hs
     have x25:∀h,M.ext 25 [.bool true,.iV 3] h=some ⟨.iV 3,h,[]⟩:=fun h=>C.EW true 3 h
     have y25:∀h,M.ext 25 [.bool false,.iV 3] h=some ⟨.iV 0,h,[]⟩:=fun h=>C.EW false 3 h
     have kA:(d=0/\∀h,M.ext 77 [.iV n,.iV d] h=some ⟨.aq [.str [],.iV 6],h,[]⟩)\/(d≠0/\∃x,(∀h,M.ext 77 [.iV n,.iV d] h=some ⟨.aq [.str x,.iV 0],h,[]⟩)/\(∀h,M.ext 78 [.iV n,.iV d] h=some ⟨.str x,h,[]⟩)/\∀h,M.ext 75 [.str x,.iV 0,.iV 0,.str x] h=some ⟨.bool true,h,[]⟩):=by
      by_cases h0:d=0
      . subst h0;exact .inl ⟨rfl,C.NV n⟩
      . exact .inr ⟨h0,_,fun h=>C.NW n d h hn hd h0,fun h=>C.NX n d h hn hd h0,fun h=>C.EX _ h (.aX hn hd h0)⟩
     have kB:(∃e,e≠0/\gC a=e/\(∀h,M.ext 79 [.str a] h=some ⟨.aq [.str [],.iV e],h,[]⟩)/\∀h,M.ext 75 [.str [],.iV e,.iV e,.str []] h=some ⟨.bool true,h,[]⟩)\/(gC a=0/\∃y,(∀h,M.ext 79 [.str a] h=some ⟨.aq [.str y,.iV 0],h,[]⟩)/\(∀h,M.ext 80 [.str a] h=some ⟨.str y,h,[]⟩)/\∀h,M.ext 75 [.str y,.iV 0,.iV 0,.str y] h=some ⟨.bool true,h,[]⟩):=by
      by_cases h0:gC a=0
      . obtain⟨q,rfl,hq⟩:=aag h0 ha;exact .inr ⟨h0,_,fun h=>C.Oa q h hq,fun h=>C.Ob q h hq,fun h=>C.EX _ h (hq.floor.mono (by decide))⟩
      . exact .inl ⟨_,h0,rfl,fun h=>C.NZ a h ha h0,fun h=>C.yC _ h h0⟩
     have kC:(n<0/\(∀h,M.ext 51 [.iV n] h=some ⟨.aq [.iV 0,.iV 3],h,[]⟩)/\∀h,M.ext 38 [.iV 0,.iV 3,.iV 3,.iV 0] h=some ⟨.bool true,h,[]⟩)\/(0<=n/\∃r,(∀h,M.ext 51 [.iV n] h=some ⟨.aq [.iV r,.iV 0],h,[]⟩)/\(∀h,M.ext 81 [.iV n] h=some ⟨.iV r,h,[]⟩)/\∀h,M.ext 38 [.iV r,.iV 0,.iV 0,.iV r] h=some ⟨.bool true,h,[]⟩):=by
      rcases Int.lt_or_le n 0 with h|h
      . exact .inl ⟨h,fun k=>C.Oc n k h,fun k=>C.Og 3 k (by decide)⟩
      . obtain⟨r,r1,r2⟩:=C.Od n ⟨h,hn.2⟩;exact .inr ⟨h,r,r1,r2,fun k=>C.Oh r k⟩
     have yC:∀h,M.ext 75 [.str [],.iV 6,.iV 6,.str []] h=some ⟨.bool true,h,[]⟩:=fun h=>C.yC 6 h (by decide)
     clear C;generalize gC a=ea at *
     rcases kA with ⟨ka,a1⟩|⟨ka,x,a1,a2,a3⟩;all_goals
     . rcases kB with ⟨e,kb,rfl,b1,b3⟩|⟨kb,y,b1,b2,b3⟩;all_goals
       . rcases kC with ⟨kc,c1,c3⟩|⟨kc,r,c1,c2,c3⟩;all_goals
         . cases hI:isName s;all_goals
           . rw[hI]at q82 q83;exact gg2
   . rw[decide_eq_false ha]at q72;exact gg2
 . exact gg2
end Go.Ab.Ch1

/-
  Own work: the contracts of MarkParts as a table.
-/
namespace Go.Ab.Ch1
open Go.Proofs Go.Ab.aY
noncomputable def EY:Spec:=sK TF 157
theorem aeV:aS Tryz.prog gl 157 EY:=bg wu
theorem Oi {n:Int}(hn : -9223372036854775808<=n/\n<9223372036854775808):∃v0,bI v0 (n:Rat)/\∀h,EY [.iV n] h=some ⟨v0,h,[]⟩:=by
 obtain⟨v0,h1,h2⟩:=Vs (eF.c (N:=1) (by decide) (by decide)) hn;exact⟨v0,by unfold bI;rw[Rat.num_intCast,Rat.den_intCast];exact h1,dx h2 rfl⟩
noncomputable def EZ:List (Nat×Spec):=[(157,EY),(150,Co),(105,xC)]
noncomputable def Fa:Spec:=sK EZ 77
theorem aeW:aS Tryz.prog gl 77 Fa:=bg (aP aeV (aP XF (aP Lz bx)))
theorem Oj {n:Int}(hn : -9223372036854775808<=n/\n<9223372036854775808):Dq 20 (n:Rat):=by
 have e:(10:Int)^20=100000000000000000000:=by decide
 unfold Dq;rw[Rat.num_intCast,Rat.den_intCast,e];exact⟨by unfold ak;split <;> omega,by decide⟩
theorem k77 (n d:Int)(h:ab)(hn : -9223372036854775808<=n/\n<9223372036854775808)(hd : -9223372036854775808<=d/\d<9223372036854775808)(h0:d≠0):Fa [.iV n,.iV d] h=some ⟨.aq [.str (aQ (Rat.divInt n d)),.iV 0],h,[]⟩:=by
 obtain⟨v1,a1,q1⟩:=Oi hn;obtain⟨v2,a2,q2⟩:=Oi hd;have b1:=Oj hn;have b2:=Oj hd;have hz:(d:Rat)≠0:=by simpa using h0
 have b3:=b2.inv hz;obtain⟨v3,a3,q3⟩:=XG (N:=1000) (by decide) (by decide) v1 v2 n d a1 a2 (b1.bq (by decide)) (b2.bq (by decide)) (b3.bq (by decide)) hz;have e:(n:Rat)*(d:Rat)⁻¹=Rat.divInt n d:=by rw[Rat.divInt_eq_div,Rat.div_def]
 rw[e]at a3;exact bP (w77 (M:=aX Tryz.prog FT EZ) bj h0 q1 q2 q3 (fun h=>LA v3 _ a3 (by rw[←e];exact(b1.mul b3).mono (by decide)) h)) rfl rfl rfl h
noncomputable def Ok:List (Nat×Spec):=[(195,oM),(206,Ev),(196,tj)]
noncomputable def Ol:Spec:=sK Ok 161
theorem aeY:aS Tryz.prog gl 161 Ol:=bg (aP DY (aP No (aP Ew bx)))
theorem cFl:NQ (aX Tryz.prog FT Ok) where
 ft:=bj
 ja:=yt
 ti:=Np.ti
 jN:=yw
noncomputable def Om:List (Nat×Spec):=[(92,DU),(135,EK),(161,Ol),(138,yy)]
noncomputable def Fb:Spec:=sK Om 80
theorem afa:aS Tryz.prog gl 80 Fb:=bg (aP acO (aP aet (aP aeY (aP Nu bx))))
theorem k80 (q:Rat)(h:ab)(hq:Dq 60 q):Fb [.str (aQ q)] h=some ⟨.str (aQ (lK q)),h,[]⟩:=by
 have hl:=Ny hq (by decide) (by decide);obtain⟨v1,v2,k1,k2,q135⟩:=aev q hl;have d0:=den_pos (q:=q);have hf:=fit (N:=50) (k:=60) (by decide) hq;obtain⟨v3,k3,q161⟩:=aeR (N:=50) cFl k1 k2 hf.n0 hf.d0 (by decide) d0;have e:aQ (lK q)=bL (q.num/q.den):=by
  obtain⟨f1,f2⟩:=xc q;unfold aQ;rw[if_pos f2,f1]
 have bf:=(fit (N:=50) (k:=61) (by decide) (hq.floor.mono (by decide))).n0;rw[(xc q).1]at bf;rw[e];refine bP (w80 (M:=aX Tryz.prog FT Om) bj (fun h1=>if_pos h1) k1 k2 (fun h=>?_) q135 (dx q161 (fq k1.top k2.top)) (fun h=>EA h k3 bf)) rfl rfl rfl h;refine(k92 (aQ q) h hl).trans ?_;rw[decide_eq_decide.2 (yq q).2.2.1]
noncomputable def On:Spec:=sK [] 51
noncomputable def Oo:Spec:=sK [] 81
noncomputable def Oq:Spec:=sK [] 82
noncomputable def Ot:Spec:=sK [] 83
theorem afc:aS Tryz.prog gl 51 On:=bg bx
theorem afd:aS Tryz.prog gl 81 Oo:=bg bx
theorem afe:aS Tryz.prog gl 82 Oq:=bg bx
theorem aff:aS Tryz.prog gl 83 Ot:=bg bx
noncomputable def Fc:List (Nat×Spec):=[(18,Bx),(72,NB),(77,Fa),(78,EE),(62,Ea),(79,Dx),(80,Fb),(51,On),(81,Oo),(82,Oq),(83,Ot),(25,pP),(75,Nz),(38,NA)]
theorem afg:cA Tryz.prog gl (bm Fc):=aP Tg (aP aeE (aP aeW (aP aer (aP adb (aP abI (aP afa (aP afc (aP afd (aP afe (aP aff (aP Tq (aP aeC (aP aeD bx)))))))))))))
theorem c15:NS (aX Tryz.prog FT Fc) where
 ft:=bj
 NT:=fun h=>Th h
 NU:=fun v h a hf=>pL (aeT (M:=aX Tryz.prog FT []) (cap:=none) bj a) rfl rfl rfl (.cons hf .nil)
 NV:=fun n h=>bP (aeO (M:=aX Tryz.prog FT EZ) bj n) rfl rfl rfl h
 NW:=fun n d h h1 h2 h3=>k77 n d h h1 h2 h3
 NX:=fun n d h h1 h2 h3=>k78 n d h h1 h2 h3
 NY:=fun s h hl=>k62 s h (by omega)
 NZ:=fun s h hl he=>bP (aaa (M:=aX Tryz.prog FT xK) bj s _ he fun h=>LD s h (by omega)) rfl rfl rfl h
 Oa:=fun p h hp=>k79 p h (hp.mono (by decide))
 Ob:=fun p h hp=>k80 p h hp
 Oc:=fun n h hn=>bP (aeL bj hn) rfl rfl rfl h
 Od:=fun n hn=>by
  obtain⟨r,h1,r1⟩:=w51 (M:=aX Tryz.prog FT []) bj hn;obtain⟨r',h2,r2⟩:=w81 (M:=aX Tryz.prog FT []) bj hn;obtain rfl:=h1.uniq h2;exact⟨r,fun h=>bP r1 rfl rfl rfl h,fun h=>bP r2 rfl rfl rfl h⟩
 Oe:=fun s h hl=>bP (w82 bj s (by omega)) rfl rfl rfl h
 Of:=fun s h hl=>bP (w83 bj s (by omega)) rfl rfl rfl h
 EW:=fun _ _ _=>rfl
 yC:=fun e h he=>bP (aea (M:=aX Tryz.prog FT [(108,tn)]) bj he) rfl rfl rfl h
 EX:=fun q h hq=>bP (w75 (M:=aX Tryz.prog FT [(108,tn)]) bj fun h=>aeF q h hq) rfl rfl rfl h
 Og:=fun e h he=>bP (aec bj he) rfl rfl rfl h
 Oh:=fun c h=>bP (aed bj c) rfl rfl rfl h
end Go.Ab.Ch1
