/-
  Own work: the resolved code of some functions of chapter 1.
-/
import Derived.Test.YtmngppcmhfhgaaaGreatDoorCh5Base
import Derived.Test.YtmngppcmhfhgaaaGreatDoorLib1
import Derived.Test.YtmngppcmhfhgaaaGreatDoorCh5Row
import Derived.Test.YtmngppcmhfhgaaaGreatDoorLib2
open Bool renaming true_or→l9
open Int renaming mul_le_mul_of_nonneg_left→aY,mul_le_mul_of_nonneg_right→be,le_of_lt→bA,mul_assoc→bP,mul_comm→bW,pow_pos→b6,pow_succ→b7,mul_add→b8,mul_lt_mul_of_pos_right→b9,mul_zero→ce,ediv_lt_of_lt_mul→ci,mul_nonneg→cn,toNat_natCast→cQ,lt_or_le→cT,add_mul→c0,add_zero→c8,lt_of_mul_lt_mul_left→c9,ediv_nonneg→dw,pow_add→dK,one_mul→dL,lt_mul_ediv_self_add→d6,ediv_eq_zero_of_lt→d7,mul_ediv_add_emod→d9,sub_zero→fW,emod_lt_of_pos→f7,mul_sub→f8,eq_ofNat_of_zero_le→f9,mul_le_mul→gu,mul_one→gF,sub_mul→gR,lt_ediv_add_one_mul_self→g9,emod_nonneg→hJ,lt_of_mul_lt_mul_right→hZ,mul_right_comm→ii,mul_emod_left→ix,mul_ediv_mul_of_pos→iM,ediv_mul_le→iX,le_ediv_of_mul_le→i5,add_mul_ediv_left→i6,mul_ediv_self_le→i8,add_assoc→jr,le_trans→j6,zero_add→j7,add_comm→j8,emod_eq_of_lt→j9
open List renaming length_set→aL,take_of_length_le→aR,length_take→bI,getElem!_eq_getElem?_getD→bN,replicate→ck,append_assoc→cZ,drop_eq_getElem_cons→c6,take_length→c7,take_append_drop→d8,length_cons→fu,getElem?_eq_getElem→fX,mem_singleton→f6,drop_zero→gc,eq_nil_of_length_eq_zero→gT,getElem?_append_left→ip,drop_length→iK,getElem?_set_ne→i7,take_succ_cons→i9,mem_replicate→jz,set_cons_succ→j1,take_add_one→j4,cons_append→ki,length_drop→kn,drop_drop→le,drop_left→li
open Nat renaming le_refl→ba,min_eq_left→cP,zero_le→ew,le_trans→iQ,lt_or_ge→j5,lt_succ_self→kw,log2_eq_iff→lc
open Option renaming toList_some→j0,isNone_none→j2,isSome_some→j3,map_some→k9
set_option maxHeartbeats 8000000
set_option maxRecDepth 20000
namespace Go.Ab.Ch5.N
set_option maxRecDepth 1000000
def Ia:ao:=zR [⟨.p 3,.mv (.c (.bool false)),none⟩] (zR [zm 7 0,zm 8 1,zb 9 .lss 7 8,zn 10 9,zg (zm 11 0) 10 false,zg (zm 12 2) 10 false,zg (zb 13 .gtr 11 12) 10 false,zP 14 10 13,zw 3 14] (.ret))
theorem Tj:FT 238=some ⟨15,[0,1,2,6],[.var (.p 3)],Ia⟩:=by kernel_rfl
end Go.Ab.Ch5.N

/-
  Own work: plain facts of drawn orders: an exchange after the other gives an order of the same elements; its last place and the rest.
-/
namespace Go.Ab
end Go.Ab

/-
  Own work: mark.Draw, mark.outside, stadionref01.CheckDraw: what they compute.
-/
namespace Go.Ab.Ch5.N
open Go.Proofs.Tryz
variable {M:az}
theorem Tk (hft:M.FT=FT)(x lo hi:Int):bg M 238 [.iV x,.iV lo,.iV hi] [] ⟨.bool (decide (x<lo) || decide (hi<x)),[],[]⟩:=by
 refine bU (by rw[hft];exact Tj) am ?_;unfold Ia;repeat' first|apply aaK|apply aa|apply aaI|apply aaC|apply abZ|(apply aew;rfl)|(apply afc;rfl)|(apply acE;rfl;rfl)|(apply acI;rfl;rfl)|(apply acJ;rfl;rfl)|(apply adt;rfl;rfl)|(apply abx;rfl;rfl)|(apply abO;rfl;rfl)|(intro _;omega)|intro _
 all_goals exact⟨.inr rfl,rfl,_,rfl,by simp[aT, *];try omega,by simp[AV.top]⟩
end Go.Ab.Ch5.N

/-
  Own work: contracts of chapter 1 as a table.
-/
namespace Go.Ab
open Go.ChangeShapes Go.WideShapes Go.RowKit
variable {P:Program} {gl:Nat->Option AV}
theorem iO {FT:FuncId->Option dh}{T:List (Nat×Spec)}:(bz P FT T).ext=bE T:=rfl
theorem HZ {FT:FuncId->Option dh}(hs:kh P gl FT){T:List (Nat×Spec)}(hT:cY P gl (bE T)){f:Nat}{xs:List AV}{w:World}(hr:bg (bz P FT T) f xs [] ⟨.bool true,[],[]⟩)
 (hgl:∀g v,gl g=some v->V bare w v (.pointer (some ⟨g,0,none⟩))) {as':List Value} (hv:VL bare w xs as'):Calls P f as'.toArray w fun e w'=>e = .returned (.bool true)/\Below w.heap.size w w':=by
 obtain⟨n,hn⟩:=hr;refine(GY hs.mix hT hs.ft hn hgl hv).mono fun e w' he=>?_
 obtain⟨v',h1,⟨ρ',h2⟩,h3⟩:=he;cases h2;exact⟨h1,GZ h3⟩
end Go.Ab
namespace Go.Ab.Ch5.N
open Go.Proofs
def Ib:Spec:=fun
 | [.int .i64 x,.int .i64 lo,.int .i64 hi],h=>some ⟨.bool (decide (x<lo) || decide (hi<x)),h,[]⟩
 | _,_=>none
theorem Tl:aZ Tryz.prog gl 238 Ib:=by
 intro xs h r hq;unfold Ib at hq;split at hq
 . cases hq;exact jI iN bK (Tk (M:=bz Tryz.prog FT []) bL _ _ _) (fA.same rfl) rfl (.inl rfl)
 . cases hq
set_option maxRecDepth 1000000
def Ic:ao:=zR [zi 2 0] (.seq (zR [zm 5 0] (.cond (.l 5) (zR [zm 6 1,zw 2 6] (.ret)) (.skip))) (zR [zi 2 0] (.ret)))
theorem Tm:FT 228=some ⟨7,[0,1,4],[.var (.p 2)],Ic⟩:=by kernel_rfl
def vj:ao:=zR [zr 8 .lss 5 4] (.seq (.cond (.l 8) (.skip) (.exit 0)) (.seq (.block 1 (zR [⟨.l 9,.fy none 1 (.p 3) (.p 5),none⟩,zd 10 1 9,zw 2 10] (zR [zm 11 2,zc 12 .neq 11 0] (.cond (.l 12) (zR [zm 13 2,zw 1 13] (.ret)) (.skip))))) (.region [zq 14 .add 5 1,zw 5 14])))
def Ie:ao:=zR [zi 1 0] (.seq (zR [⟨.p 3,.mv (.p 0),none⟩,⟨.p 4,.len .sl (.p 3),none⟩,zi 5 0] (.block 0 (.loop vj))) (zR [zi 1 0] (.ret)))
theorem Tn:FT 227=some ⟨15,[0,2,4,5,6,7],[.var (.p 1)],Ie⟩:=by kernel_rfl
def vk:ao:=.seq (zR [zm 4 2,zm 5 0,zl 6 5,zb 7 .lss 4 6] (.cond (.l 7) (.skip) (.exit 0))) (.seq (.block 1 (zR [zm 10 0,zm 11 2,za 12 1 10 11,zd 13 1 12,zc 14 .neq 13 0] (.cond (.l 14) (zR [zm 15 0,zm 16 2,za 17 1 15 16,zd 18 1 17,zw 1 18] (.ret)) (.skip)))) (.region [zm 8 2,zc 9 .add 8 1,zw 2 9]))
def Ig:ao:=zR [zi 1 0] (.seq (zR [zi 2 0] (.block 0 (.loop vk))) (zR [zi 1 0] (.ret)))
theorem To:FT 25=some ⟨19,[0,2,3],[.var (.p 1)],Ig⟩:=by kernel_rfl
variable {inv:fg} {F:FuncId->Option dh}
abbrev fH (T:List (Nat×Spec))(inv:fg)(F:FuncId->Option dh):az:=⟨bE T,inv,F⟩
theorem Ih {g:Nat}{sp:Spec}{T:List (Nat×Spec)}{xs:List AV}{h:ae}:bE ((g,sp)::T) g xs h=sp xs h:=by simp[bE]
def cM:List Int->Int
 | []=>0
 | e::r=>if e=0 then cM r else e
def kL:Spec:=fun
 | [.bool t,.int .i64 e],h=>some ⟨.int .i64 (if t then e else 0),h,[]⟩
 | _,_=>none
def jg:Spec:=fun
 | [v],h=>match gO h v with
   | some l=>if l.length<4611686018427387904 then some ⟨.int .i64 (cM l),h,[]⟩ else none
   | none=>none
 | _,_=>none
theorem Tp {T:List (Nat×Spec)}(hft:F=FT)(t:Bool)(e:Int):bg (fH T inv F) 228 [.bool t,.int .i64 e] [] ⟨.int .i64 (if t then e else 0),[],[]⟩:=by
 refine bU (show F 228=_ from by rw[hft];exact Tm) am ?_;unfold Ic;simp only[enter];cases t;all_goals
  repeat' first|apply aaK|apply aa|apply aaI|apply aaC|apply abZ|apply acn|apply aP|(apply ack;rfl)|(apply acj;rfl)|(apply abx;rfl;rfl)|(apply abO;rfl;rfl)
 all_goals exact⟨.inr rfl,rfl,_,rfl,rfl,rfl⟩
theorem vn {l:List Int}{i:Nat}(h:i<l.length):cM (l.drop i)=if l[i]! = 0 then cM (l.drop (i+1)) else l[i]! := by
 rw[c6 h,getElem!_pos l i h,cM]
theorem Ii {T:List (Nat×Spec)}(l:List Int)(cap:Option Nat)(a0:AV)(hl:l.length<4611686018427387904)(hp:ae)(df:List Nat){Q:Ex->aw->Prop}:∀(r i:Nat),i+r=l.length->∀(a1 a2:AV) (lo:List (Nat×AV)) (wr:List Nat),
 (cM (l.drop i)=0->∀a2 lo wr,Q (.exit 0) ⟨⟨[a0,a1,a2,.vs (ints l) l.length cap,.int .i64 l.length,.int .i64 l.length],lo,hp,df⟩,wr⟩) ->
 (∀a2 a5 lo wr,Q .ret ⟨⟨[a0,.int .i64 (cM (l.drop i)),a2,.vs (ints l) l.length cap,.int .i64 l.length,a5],lo,hp,df⟩,wr⟩) ->
 W (fH T inv F) (.loop vj) ⟨⟨[a0,a1,a2,.vs (ints l) l.length cap,.int .i64 l.length,.int .i64 i],lo,hp,df⟩,wr⟩ Q
 | 0,i,hi,a1,a2,lo,wr,h1,h2=>by
  obtain rfl:i=l.length:=by omega
  refine W.loop ?_;unfold vj;repeat' first|apply aaK|apply aa|apply aaI|apply aaC|apply acV|apply bh|apply bJ|(apply acj;rfl)|(apply acE;rfl;rfl)|(intro _;omega)|intro _
  exact h1 (by simp[cM]) _ _ _
 | r+1,i,hi,a1,a2,lo,wr,h1,h2=>by
  have e:=vn (l:=l) (i:=(i:Int).toNat) ac;rw[cQ]at e;refine W.loop ?_;unfold vj;repeat' first|apply aaK|apply aa|apply aaI|apply aaC|apply acu|apply abZ|apply acn|apply aP|apply bc|apply bH|apply cz|(apply ack;rfl)|(apply acj;rfl)|(apply acE;rfl;rfl)|(apply adH;rfl;rfl)|(apply adz;rfl;rfl;omega)|(apply afb;rfl;rfl;omega)|(apply afo;rfl;exact fun _=>rfl;(first|omega|(simp only[aL];omega)|(simp;omega));decide;rfl;case ia=>infer_instance)|(apply abx;rfl;rfl)|(apply abO;rfl;rfl)|(intro _;omega)|intro _
  . rename_i hne;rw[cQ]at hne;rw[if_neg hne]at e;rw[e]at h2;exact h2 _ _ _ _
  . rename_i he;rw[cQ]at he;rw[if_pos he]at e;rw[e]at h1 h2;exact fV (Ii l cap a0 hl hp df r (i+1) ac _ _ _ _ h1 h2)
theorem Tq {T:List (Nat×Spec)}(hft:F=FT)(l:List Int)(cap:Option Nat)(hl:l.length<4611686018427387904):bg (fH T inv F) 227 [.vs (ints l) l.length cap] [] ⟨.int .i64 (cM l),[],[]⟩:=by
 refine bU (show F 227=_ from by rw[hft];exact Tn) am ?_;unfold Ie;simp only[enter];repeat' first|apply aaK|apply aa|apply aaI|apply aaC|apply acu|(apply abO;rfl;rfl)
 refine Ii l cap _ hl _ _ l.length 0 ac _ _ _ _ (fun h a2 lo wr=>?_) (fun a2 a5 lo wr=>?_)
 . repeat' first|apply aaK|apply aa|apply aaI|apply aaC|apply abZ|apply bk|(apply abO;rfl;rfl)
   exact⟨.inr rfl,rfl,_,rfl,by rw[gc]at h;rw[h];rfl,rfl⟩
 . repeat' first|apply aP|apply bH
   exact⟨.inr rfl,rfl,_,rfl,rfl,rfl⟩
theorem Ij {T:List (Nat×Spec)}(l:List Int)(cap:Option Nat)(hl:l.length<4611686018427387904)(hp:ae)(df:List Nat){Q:Ex->aw->Prop}:∀(r i:Nat),i+r=l.length->∀(a1:AV) (lo:List (Nat×AV)) (wr:List Nat),
 (cM (l.drop i)=0->∀lo wr,Q (.exit 0) ⟨⟨[.vs (ints l) l.length cap,a1,.int .i64 l.length],lo,hp,df⟩,wr⟩) ->
 (∀a2 lo wr,Q .ret ⟨⟨[.vs (ints l) l.length cap,.int .i64 (cM (l.drop i)),a2],lo,hp,df⟩,wr⟩) ->
 W (fH T inv F) (.loop vk) ⟨⟨[.vs (ints l) l.length cap,a1,.int .i64 i],lo,hp,df⟩,wr⟩ Q
 | 0,i,hi,a1,lo,wr,h1,h2=>by
  obtain rfl:i=l.length:=by omega
  refine W.loop ?_;unfold vk;repeat' first|apply aaK|apply aa|apply aaI|apply aaC|apply acV|apply bh|apply bJ|(apply acj;rfl)|(apply acE;rfl;rfl)|(apply abx;rfl;rfl)|(intro _;omega)|intro _
  exact h1 (by simp[cM]) _ _
 | r+1,i,hi,a1,lo,wr,h1,h2=>by
  have e:=vn (l:=l) (i:=(i:Int).toNat) ac;rw[cQ]at e;refine W.loop ?_;unfold vk;repeat' first|apply aaK|apply aa|apply aaI|apply aaC|apply acu|apply abZ|apply acn|apply aP|apply bc|apply bH|apply cz|(apply ack;rfl)|(apply acj;rfl)|(apply acE;rfl;rfl)|(apply adH;rfl;rfl)|(apply adz;rfl;rfl;omega)|(apply afb;rfl;rfl;omega)|(apply afo;rfl;exact fun _=>rfl;(first|omega|(simp only[aL];omega)|(simp;omega));decide;rfl;case ia=>infer_instance)|(apply abx;rfl;rfl)|(apply abO;rfl;rfl)|(intro _;omega)|intro _
  . rename_i hne;rw[cQ]at hne;rw[if_neg hne]at e;rw[e]at h2;exact h2 _ _ _
  . rename_i he;rw[cQ]at he;rw[if_pos he]at e;rw[e]at h1 h2;exact fV (Ij l cap hl hp df r (i+1) ac _ _ _ h1 h2)
theorem Tr {T:List (Nat×Spec)}(hft:F=FT)(l:List Int)(cap:Option Nat)(hl:l.length<4611686018427387904):bg (fH T inv F) 25 [.vs (ints l) l.length cap] [] ⟨.int .i64 (cM l),[],[]⟩:=by
 refine bU (show F 25=_ from by rw[hft];exact To) am ?_;unfold Ig;simp only[enter];repeat' first|apply aaK|apply aa|apply aaI|apply aaC|apply acu|(apply abO;rfl;rfl)
 refine Ij l cap hl _ _ l.length 0 ac _ _ _ (fun h lo wr=>?_) (fun a2 lo wr=>?_)
 . repeat' first|apply aaK|apply aa|apply aaI|apply aaC|apply abZ|apply bk|(apply abO;rfl;rfl)
   exact⟨.inr rfl,rfl,_,rfl,by rw[gc]at h;rw[h];rfl,rfl⟩
 . repeat' first|apply aP|apply bH
   exact⟨.inr rfl,rfl,_,rfl,rfl,rfl⟩
theorem Ik:aZ Tryz.prog gl 228 kL:=by
 intro xs h r hq;unfold kL at hq;split at hq
 . cases hq;exact jI iN bK (Tp (T:=[]) rfl _ _) (fA.same rfl) rfl (.inl rfl)
 . cases hq
theorem Cf {f:Nat}(hw:∀(l:List Int) cap,l.length<4611686018427387904->bg (bz Tryz.prog FT []) f [.vs (ints l) l.length cap] [] ⟨.int .i64 (cM l),[],[]⟩):aZ Tryz.prog gl f jg:=by
 intro xs h r hq;unfold jg at hq;split at hq
 . split at hq
   . rename_i l hl;split at hq
     . rename_i hlen;cases hq;obtain⟨S,cap,hf⟩:=(Rk hl).fr (fun _=>rfl);exact jI iN bK (hw l cap hlen) (.cons hf .nil) rfl (.inr rfl)
     . cases hq
   . cases hq
 . cases hq
theorem Il:aZ Tryz.prog gl 227 jg:=Cf fun l cap h=>Tq (T:=[]) rfl l cap h
theorem Ts:aZ Tryz.prog gl 25 jg:=Cf fun l cap h=>Tr (T:=[]) rfl l cap h
def vo:ao:=.seq (zR [zm 6 2,zc 7 .gtr 6 0,zn 8 7,zg (zm 9 0) 8 true,zg (zm 10 2) 8 true,zg (zc 11 .sub 10 1) 8 true,zg (za 12 1 9 11) 8 true,zg (zd 13 1 12) 8 true,⟨.l 14,.bin .eql (.l 13) (kU 0),some ((.l 8),true)⟩,zp 15 8 14] (.cond (.l 15) (.skip) (.exit 0))) (.block 1 (.region [zm 16 2,zc 17 .sub 16 1,zw 2 17]))
def Im:ao:=zR [⟨.p 1,.mv (.c (.ab)),none⟩] (zR [zm 4 0,zl 5 4,zw 2 5] (.seq (.block 0 (.loop vo)) (zR [zm 18 0,zm 19 2,⟨.l 20,.slice .sl 1 (.l 18) none (some (.l 19)) none,none⟩,zw 1 20] (.ret))))
theorem Tt:FT 288=some ⟨21,[0,2,3],[.var (.p 1)],Im⟩:=by kernel_rfl
def vt:ao:=.seq (zR [zm 19 3,zc 20 .geq 19 0] (.cond (.l 20) (.skip) (.exit 0))) (.seq (.block 1 (.seq (.draw [(zm 23 0,[]),(zm 24 3,[0]),(za 25 1 23 24,[]),(zd 26 1 25,[]),(zm 27 1,[0,1,2,3]),(zm 28 3,[0,1,2,3,4]),(za 29 1 27 28,[0,1,2,3]),(zd 30 1 29,[0,1,2,3]),(zb 31 .neq 26 30,[])]) (.cond (.l 31) (.seq (.seq (.draw [(zm 32 0,[]),(zm 33 3,[0]),(za 34 1 32 33,[]),(zd 35 1 34,[]),(zm 36 1,[0,1,2,3]),(zm 37 3,[0,1,2,3,4]),(za 38 1 36 37,[0,1,2,3]),(zd 39 1 38,[0,1,2,3]),(zb 40 .lss 35 39,[])]) (.cond (.l 40) (zR [zi 2 (-1)] (.ret)) (.skip))) (zR [zi 2 1] (.ret))) (.skip)))) (.region [zm 21 3,zc 22 .sub 21 1,zw 3 22]))
def Io:ao:=zR [zi 2 0] (.seq (zR [zm 6 0,zl 7 6,zm 8 1,zl 9 8,zb 10 .neq 7 9] (.cond (.l 10) (.seq (zR [zm 11 0,zl 12 11,zm 13 1,zl 14 13,zb 15 .lss 12 14] (.cond (.l 15) (zR [zi 2 (-1)] (.ret)) (.skip))) (zR [zi 2 1] (.ret))) (.skip))) (.seq (zR [zm 16 0,zl 17 16,zc 18 .sub 17 1,zw 3 18] (.block 0 (.loop vt))) (zR [zi 2 0] (.ret))))
theorem Tu:FT 286=some ⟨41,[0,1,4,5],[.var (.p 2)],Io⟩:=by kernel_rfl
def vu:ao:=zR [zr 30 .lss 17 16] (.seq (.cond (.l 30) (.skip) (.exit 2)) (.seq (.block 3 (zR [zm 31 17,⟨.l 32,.fy none 1 (.p 15) (.p 17),none⟩,zd 33 1 32,zw 7 31,zw 8 33] (zR [zm 35 5,zm 36 8,z2 37 259 35 36,zn 34 37,ze 38 0 34,ze 39 1 34,zw 9 38,zw 10 39] (zR [⟨.p 11,.mv (kU 0),none⟩] (zR [zm 41 10,zm 42 3,zm 43 4,zm 44 7,zb 45 .add 43 44,za 46 1 42 45,zd 47 1 46,⟨.l 48,.call (kF 310) [(.l 41),(.l 47),(kU 0)],none⟩,zn 40 48,ze 49 0 40,ze 50 1 40,zw 10 49,zw 11 50] (zR [zm 51 9,zm 52 11,zb 53 .add 51 52,zw 9 53] (zR [zm 55 10,zm 56 6,⟨.l 57,.call (kF 310) [(.l 55),(.l 56),(kU 0)],none⟩,zn 54 57,ze 58 0 54,ze 59 1 54,zw 10 58,zw 11 59] (.region [zm 60 3,zm 61 4,zm 62 7,zb 63 .add 61 62,zm 64 10,zm 65 9,zm 66 11,zb 67 .add 65 66,za 68 1 60 63,zS 1 68 64,zw 6 67])))))))) (.region [zq 69 .add 17 1,zw 17 69])))
def Cg:ao:=zR [zr 23 .lss 14 13] (.seq (.cond (.l 23) (.skip) (.exit 0)) (.seq (.block 1 (zR [zm 24 14,⟨.l 25,.fy none 1 (.p 12) (.p 14),none⟩,zd 26 1 25,zw 4 24,zw 5 26] (zR [⟨.p 6,.mv (kU 0),none⟩] (.seq (zR [⟨.p 15,.mv (.p 1),none⟩,⟨.p 16,.len .sl (.p 15),none⟩,zi 17 0] (.block 2 (.loop vu))) (.region [zm 70 3,zm 71 4,zm 72 1,zl 73 72,zb 74 .add 71 73,zm 75 6,za 76 1 70 74,zS 1 76 75]))))) (.region [zq 77 .add 14 1,zw 14 77])))
def Ip:ao:=zR [⟨.p 2,.mv (.c (.ab)),none⟩] (zR [zm 14 0,zl 15 14,zm 16 1,zl 17 16,zb 18 .add 15 17,⟨.l 19,.gS 274 1 8 [.uV (0)] (.l 18) (.l 18),none⟩,zw 3 19] (.seq (zR [⟨.p 12,.mv (.p 0),none⟩,⟨.p 13,.len .sl (.p 12),none⟩,zi 14 0] (.block 0 (.loop Cg))) (zR [zm 78 3,z1 79 288 78,zw 2 79] (.ret))))
theorem Tv:FT 262=some ⟨80,[0,1,4,5,6,7,8,9,10,11,12,13,20,21,22,27,28,29],[.var (.p 2)],Ip⟩:=by kernel_rfl
def Ch:ao:=zR [zr 15 .lss 8 7] (.seq (.cond (.l 15) (.skip) (.exit 0)) (.seq (.block 1 (zR [zm 16 8,⟨.l 17,.fy none 1 (.p 6) (.p 8),none⟩,zd 18 1 17,zw 4 16,zw 5 18] (.seq (.draw [(zm 19 3,[]),(zm 20 4,[0]),(za 21 1 19 20,[]),(zd 22 1 21,[]),(zm 23 5,[0,1,2,3]),(zm 24 1,[0,1,2,3,4]),(zb 25 .shl 23 24,[0,1,2,3]),(zb 26 .or 22 25,[]),(za 27 1 19 20,[]),(zS 1 27 26,[])]) (zR [zm 28 1,zc 29 .gtr 28 0] (.cond (.l 29) (.region [zm 30 3,zm 31 4,zc 32 .add 31 1,zm 33 5,zm 34 1,⟨.l 35,.bin .sub (kI 64) (.l 34),none⟩,zb 36 .shr 33 35,za 37 1 30 32,zS 1 37 36]) (.skip)))))) (.region [zq 38 .add 8 1,zw 8 38])))
def Iq:ao:=zR [⟨.p 2,.mv (.c (.ab)),none⟩] (zR [zm 8 0,zl 9 8,zc 10 .add 9 1,⟨.l 11,.gS 274 1 8 [.uV (0)] (.l 10) (.l 10),none⟩,zw 3 11] (.seq (zR [⟨.p 6,.mv (.p 0),none⟩,⟨.p 7,.len .sl (.p 6),none⟩,zi 8 0] (.block 0 (.loop Ch))) (zR [zm 39 3,zw 2 39] (.ret))))
theorem Tw:FT 290=some ⟨40,[0,1,4,5,6,7,12,13,14],[.var (.p 2)],Iq⟩:=by kernel_rfl
def vv:ao:=.seq (zR [zm 30 6,zc 31 .geq 30 0] (.cond (.l 31) (.skip) (.exit 0))) (.seq (.block 1 (.draw [(zm 35 4,[]),(zm 36 6,[0]),(zm 37 5,[0,1]),(zm 38 0,[0,1,2]),(zm 39 6,[0,1,2,3]),(za 40 1 38 39,[0,1,2]),(zd 41 1 40,[0,1,2]),(zm 42 1,[0,1,2,3,4,5,6]),(⟨.l 43,.fy none 1 (.l 42) (kI 0),none⟩,[0,1,2,3,4,5,6]),(zd 44 1 43,[0,1,2,3,4,5,6]),(⟨.l 45,.call (kF 287) [(.l 37),(.l 41),(.l 44)],none⟩,[0,1]),(zn 34 45,[0,1]),(ze 46 0 34,[0,1]),(ze 47 1 34,[0,1,12]),(za 48 1 35 36,[13]),(zS 1 48 46,[13]),(zw 5 47,[])])) (.region [zm 32 6,zc 33 .sub 32 1,zw 6 33]))
def vw:ao:=.seq (zR [zm 80 12,zc 81 .geq 80 0] (.cond (.l 81) (.skip) (.exit 2))) (.seq (.block 3 (.region [zm 84 11,zm 85 12,zm 86 9,zm 87 12,zm 88 12,zm 89 10,zb 90 .add 88 89,zc 91 .add 90 1,⟨.l 92,.slice .sl 1 (.l 86) (some (.l 87)) (some (.l 91)) none,none⟩,zm 93 8,z2 94 291 92 93,za 95 1 84 85,zS 1 95 94])) (.region [zm 82 12,zc 83 .sub 82 1,zw 12 83]))
def vy:ao:=zR [zr 98 .lss 15 14] (.seq (.cond (.l 98) (.skip) (.exit 4)) (.seq (.block 5 (zR [zm 99 15,zw 13 99] (zR [zm 100 9,zm 101 13,za 102 1 100 101,zd 103 1 102,zm 104 7,zb 105 .shr 103 104,za 106 1 100 101,zS 1 106 105] (zR [zm 107 7,zc 108 .gtr 107 0,zn 109 108,zg (zm 110 13) 109 true,zg (zc 111 .add 110 1) 109 true,zg (zm 112 9) 109 true,zg (zl 113 112) 109 true,zg (zb 114 .lss 111 113) 109 true,zp 115 109 114] (.cond (.l 115) (.draw [(zm 116 9,[]),(zm 117 13,[0]),(za 118 1 116 117,[]),(zd 119 1 118,[]),(zm 120 9,[0,1,2,3]),(zm 121 13,[0,1,2,3,4]),(zc 122 .add 121 1,[0,1,2,3,4]),(za 123 1 120 122,[0,1,2,3]),(zd 124 1 123,[0,1,2,3]),(zm 125 7,[0,1,2,3,4,5,6,7,8]),(⟨.l 126,.bin .sub (kI 64) (.l 125),none⟩,[0,1,2,3,4,5,6,7,8]),(zb 127 .shl 124 126,[0,1,2,3]),(zb 128 .or 119 127,[]),(za 129 1 116 117,[]),(zS 1 129 128,[])]) (.skip)))))) (.region [zq 130 .add 15 1,zw 15 130])))
def Ci:ao:=zR [⟨.p 2,.mv (.c (.ab)),none⟩,⟨.p 3,.mv (.c (.ab)),none⟩] (.seq (zR [zm 16 0,zm 17 1,z2 18 286 16 17,zc 19 .lss 18 0] (.cond (.l 19) (zR [zm 20 0,⟨.p 2,.mv (.c (.ab)),none⟩,zw 3 20] (.ret)) (.skip))) (.seq (zR [zm 21 1,zl 22 21,zc 23 .eql 22 1] (.cond (.l 23) (zR [zm 24 0,zl 25 24,⟨.l 26,.gS 274 1 8 [.uV (0)] (.l 25) (.l 25),none⟩,zw 4 26] (zR [⟨.p 5,.mv (kU 0),none⟩] (.seq (zR [zm 27 0,zl 28 27,zc 29 .sub 28 1,zw 6 29] (.block 0 (.loop vv))) (zR [zm 49 4,z1 50 288 49,zm 51 5,⟨.l 52,.eo 274 1 1 [.uV (0)] [(0,1,(.l 51))],none⟩,z1 53 288 52,zw 2 50,zw 3 53] (.ret))))) (.skip))) (zR [zm 54 1,zm 55 1,zl 56 55,zc 57 .sub 56 1,za 58 1 54 57,zd 59 1 58,z1 60 289 59,zw 7 60] (zR [zm 61 1,zm 62 7,z2 63 290 61 62,z1 64 288 63,zw 8 64] (zR [zm 65 0,zm 66 7,z2 67 290 65 66,zw 9 67] (zR [zm 68 8,zl 69 68,zw 10 69] (zR [zm 70 0,zl 71 70,zm 72 10,zb 73 .sub 71 72,zc 74 .add 73 1,⟨.l 75,.gS 274 1 8 [.uV (0)] (.l 74) (.l 74),none⟩,zw 11 75] (.seq (zR [zm 76 0,zl 77 76,zm 78 10,zb 79 .sub 77 78,zw 12 79] (.block 2 (.loop vw))) (.seq (zR [⟨.p 14,.mv (.p 10),none⟩,zi 15 0] (.block 4 (.loop vy))) (.seq (.draw [(zm 131 11,[]),(z1 132 288 131,[]),(zm 133 9,[0,1]),(zm 134 10,[0,1,2]),(⟨.l 135,.slice .sl 1 (.l 133) none (some (.l 134)) none,none⟩,[0,1]),(z1 136 288 135,[]),(zw 2 132,[]),(zw 3 136,[])]) (.ret)))))))))))
theorem Ir:FT 220=some ⟨137,[0,1,4,5,6,7,8,9,10,11,12,13,14,15,96,97],[.var (.p 2),.var (.p 3)],Ci⟩:=by kernel_rfl
def Cj:ao:=.seq (zR [zm 63 6,⟨.l 64,.bin .eql (.l 63) (kU 0),none⟩] (.cond (.l 64) (.skip) (.exit 0))) (.block 1 (zR [zm 66 4,zm 67 1,zm 68 3,zc 69 .sub 68 2,za 70 1 67 69,zd 71 1 70,z2 72 259 66 71,zn 65 72,ze 73 0 65,ze 74 1 65,zw 7 73,zw 8 74] (.seq (zR [zm 75 7,zm 76 5,zb 77 .lss 75 76,zn 78 77,zg (zm 79 7) 78 false,zg (zm 80 5) 78 false,zg (zb 81 .eql 79 80) 78 false,zg (zn 82 81) 78 false,zg (zm 83 8) 82 true,zg (zm 84 0) 82 true,zg (zm 85 3) 82 true,zg (zc 86 .sub 85 2) 82 true,zg (za 87 1 84 86) 82 true,zg (zd 88 1 87) 82 true,zg (zb 89 .leq 83 88) 82 true,zg (zp 90 82 89) 78 false,zP 91 78 90] (.cond (.l 91) (.exit 0) (.skip))) (zR [zm 92 4,⟨.l 93,.bin .sub (.l 92) (kU 1),none⟩,zw 4 93] (.region [zm 95 5,zm 96 1,zm 97 3,zc 98 .sub 97 1,za 99 1 96 98,zd 100 1 99,⟨.l 101,.call (kF 310) [(.l 95),(.l 100),(kU 0)],none⟩,zn 94 101,ze 102 0 94,ze 103 1 94,zw 5 102,zw 6 103])))))
def rR:ao:=zR [zr 106 .lss 18 17] (.seq (.cond (.l 106) (.skip) (.exit 2)) (.seq (.block 3 (zR [zm 107 18,zw 11 107] (zR [zm 109 4,zm 110 1,zm 111 11,za 112 1 110 111,zd 113 1 112,z2 114 259 109 113,zn 108 114,ze 115 0 108,ze 116 1 108,zw 12 115,zw 13 116] (zR [⟨.p 14,.mv (kU 0),none⟩] (zR [zm 118 13,zm 119 10,⟨.l 120,.call (kF 310) [(.l 118),(.l 119),(kU 0)],none⟩,zn 117 120,ze 121 0 117,ze 122 1 117,zw 13 121,zw 14 122] (zR [zm 123 12,zm 124 14,zb 125 .add 123 124,zw 10 125] (.region [zm 127 0,zm 128 11,zm 129 0,zm 130 11,za 131 1 129 130,zd 132 1 131,zm 133 13,zm 134 9,⟨.l 135,.call (kF 330) [(.l 132),(.l 133),(.l 134)],none⟩,zn 126 135,ze 136 0 126,ze 137 1 126,za 138 1 127 128,zS 1 138 136,zw 9 137]))))))) (.region [zq 139 .add 18 1,zw 18 139])))
def rS:ao:=zR [zr 158 .lss 20 19] (.seq (.cond (.l 158) (.skip) (.exit 4)) (.seq (.block 5 (zR [zm 159 20,zw 16 159] (.draw [(zm 161 0,[]),(zm 162 16,[0]),(zm 163 0,[0,1]),(zm 164 16,[0,1,2]),(za 165 1 163 164,[0,1]),(zd 166 1 165,[0,1]),(zm 167 1,[0,1,2,3,4,5]),(zm 168 16,[0,1,2,3,4,5,6]),(za 169 1 167 168,[0,1,2,3,4,5]),(zd 170 1 169,[0,1,2,3,4,5]),(zm 171 15,[0,1,2,3,4,5,6,7,8,9]),(⟨.l 172,.call (kF 310) [(.l 166),(.l 170),(.l 171)],none⟩,[0,1]),(zn 160 172,[0,1]),(ze 173 0 160,[0,1]),(ze 174 1 160,[0,1,13]),(za 175 1 161 162,[14]),(zS 1 175 173,[14]),(zw 15 174,[])]))) (.region [zq 176 .add 20 1,zw 20 176])))
def Is:ao:=zR [⟨.p 2,.mv (kU 0),none⟩] (zR [zm 19 1,zl 20 19,zw 3 20] (zR [⟨.p 4,.mv (kU 0),none⟩,⟨.p 5,.mv (kU 0),none⟩] (zR [⟨.p 6,.mv (kU 0),none⟩] (.seq (.seq (.draw [(zm 21 0,[]),(zm 22 3,[0]),(za 23 1 21 22,[]),(zd 24 1 23,[]),(zm 25 1,[0,1,2,3]),(zm 26 3,[0,1,2,3,4]),(zc 27 .sub 26 1,[0,1,2,3,4]),(za 28 1 25 27,[0,1,2,3]),(zd 29 1 28,[0,1,2,3]),(zb 30 .geq 24 29,[])]) (.cond (.l 30) (zR [⟨.p 4,.mv (kU 18446744073709551615),none⟩] (.draw [(zm 32 0,[]),(zm 33 3,[0]),(zc 34 .sub 33 1,[0]),(za 35 1 32 34,[]),(zd 36 1 35,[]),(zm 37 1,[0,1,2,3,4]),(zm 38 3,[0,1,2,3,4,5]),(zc 39 .sub 38 1,[0,1,2,3,4,5]),(za 40 1 37 39,[0,1,2,3,4]),(zd 41 1 40,[0,1,2,3,4]),(⟨.l 42,.call (kF 310) [(.l 36),(.l 41),(kU 0)],none⟩,[]),(zn 31 42,[]),(ze 43 0 31,[]),(ze 44 1 31,[12]),(zw 5 43,[13]),(zw 6 44,[])])) (.draw [(zm 46 0,[]),(zm 47 3,[0]),(za 48 1 46 47,[]),(zd 49 1 48,[]),(zm 50 0,[0,1,2,3]),(zm 51 3,[0,1,2,3,4]),(zc 52 .sub 51 1,[0,1,2,3,4]),(za 53 1 50 52,[0,1,2,3]),(zd 54 1 53,[0,1,2,3]),(zm 55 1,[0,1,2,3,4,5,6,7,8]),(zm 56 3,[0,1,2,3,4,5,6,7,8,9]),(zc 57 .sub 56 1,[0,1,2,3,4,5,6,7,8,9]),(za 58 1 55 57,[0,1,2,3,4,5,6,7,8]),(zd 59 1 58,[0,1,2,3,4,5,6,7,8]),(⟨.l 60,.call (kF 287) [(.l 49),(.l 54),(.l 59)],none⟩,[]),(zn 45 60,[]),(ze 61 0 45,[]),(ze 62 1 45,[16]),(zw 4 61,[17]),(zw 5 62,[])]))) (.seq (.block 0 (.loop Cj)) (zR [⟨.p 9,.mv (kU 0),none⟩,⟨.p 10,.mv (kU 0),none⟩] (.seq (zR [⟨.p 17,.mv (.p 3),none⟩,zi 18 0] (.block 2 (.loop rR))) (zR [zm 141 0,zm 142 3,zm 143 0,zm 144 3,za 145 1 143 144,zd 146 1 145,zm 147 10,zm 148 9,⟨.l 149,.call (kF 330) [(.l 146),(.l 147),(.l 148)],none⟩,zn 140 149,ze 150 0 140,ze 151 1 140,za 152 1 141 142,zS 1 152 150,zw 9 151] (.seq (zR [zm 153 9,⟨.l 154,.bin .eql (.l 153) (kU 0),none⟩] (.cond (.l 154) (zR [zm 155 4,zw 2 155] (.ret)) (.skip))) (zR [⟨.p 15,.mv (kU 0),none⟩] (.seq (zR [⟨.p 19,.mv (.p 3),none⟩,zi 20 0] (.block 4 (.loop rS))) (zR [zm 177 0,zm 178 3,za 179 1 177 178,zd 180 1 179,zm 181 15,zb 182 .add 180 181,za 183 1 177 178,zS 1 183 182] (zR [zm 184 4,⟨.l 185,.bin .sub (.l 184) (kU 1),none⟩,zw 2 185] (.ret))))))))))))))
theorem Tx:FT 291=some ⟨186,[0,1,4,5,6,7,8,9,10,11,12,13,14,15,16,17,18,104,105,156,157],[.var (.p 2)],Is⟩:=by kernel_rfl
def vz:ao:=zR [zr 23 .lss 8 7] (.seq (.cond (.l 23) (.skip) (.exit 0)) (.seq (.block 1 (zR [zm 24 8,zw 5 24] (zR [⟨.p 6,.mv (kU 0),none⟩] (.seq (zR [zm 25 5,zm 26 1,zl 27 26,zb 28 .lss 25 27] (.cond (.l 28) (.region [zm 29 1,zm 30 5,za 31 1 29 30,zd 32 1 31,zw 6 32]) (.skip))) (.region [zm 34 3,zm 35 5,zm 36 0,zm 37 5,za 38 1 36 37,zd 39 1 38,zm 40 6,zm 41 4,⟨.l 42,.call (kF 310) [(.l 39),(.l 40),(.l 41)],none⟩,zn 33 42,ze 43 0 33,ze 44 1 33,za 45 1 34 35,zS 1 45 43,zw 4 44]))))) (.region [zq 46 .add 8 1,zw 8 46])))
def It:ao:=zR [⟨.p 2,.mv (.c (.ab)),none⟩] (.seq (zR [zm 9 0,zl 10 9,zm 11 1,zl 12 11,zb 13 .lss 10 12] (.cond (.l 13) (.region [zm 14 1,zm 15 0,zw 0 14,zw 1 15]) (.skip))) (zR [zm 16 0,zl 17 16,zc 18 .add 17 1,⟨.l 19,.gS 274 1 8 [.uV (0)] (.l 18) (.l 18),none⟩,zw 3 19] (zR [⟨.p 4,.mv (kU 0),none⟩] (.seq (zR [zm 20 0,⟨.p 7,.len .sl (.l 20),none⟩,zi 8 0] (.block 0 (.loop vz))) (zR [zm 47 3,zm 48 0,zl 49 48,zm 50 4,za 51 1 47 49,zS 1 51 50] (zR [zm 52 3,z1 53 288 52,zw 2 53] (.ret)))))))
theorem Ty:FT 308=some ⟨54,[0,1,4,5,6,7,8,21,22],[.var (.p 2)],It⟩:=by kernel_rfl
def vB:ao:=zR [zr 15 .lss 8 7] (.seq (.cond (.l 15) (.skip) (.exit 0)) (.seq (.block 1 (zR [zm 16 8,zw 5 16] (zR [⟨.p 6,.mv (kU 0),none⟩] (.seq (zR [zm 17 5,zm 18 1,zl 19 18,zb 20 .lss 17 19] (.cond (.l 20) (.region [zm 21 1,zm 22 5,za 23 1 21 22,zd 24 1 23,zw 6 24]) (.skip))) (.region [zm 26 3,zm 27 5,zm 28 0,zm 29 5,za 30 1 28 29,zd 31 1 30,zm 32 6,zm 33 4,⟨.l 34,.call (kF 330) [(.l 31),(.l 32),(.l 33)],none⟩,zn 25 34,ze 35 0 25,ze 36 1 25,za 37 1 26 27,zS 1 37 35,zw 4 36]))))) (.region [zq 38 .add 8 1,zw 8 38])))
def Iu:ao:=zR [⟨.p 2,.mv (.c (.ab)),none⟩] (zR [zm 9 0,zl 10 9,⟨.l 11,.gS 274 1 8 [.uV (0)] (.l 10) (.l 10),none⟩,zw 3 11] (zR [⟨.p 4,.mv (kU 0),none⟩] (.seq (zR [zm 12 0,⟨.p 7,.len .sl (.l 12),none⟩,zi 8 0] (.block 0 (.loop vB))) (zR [zm 39 3,z1 40 288 39,zw 2 40] (.ret)))))
theorem Tz:FT 309=some ⟨41,[0,1,4,5,6,7,8,13,14],[.var (.p 2)],Iu⟩:=by kernel_rfl
def Iv:ao:=zR [⟨.p 1,.mv (kU 0),none⟩] (.seq (zR [zm 3 0,zc 4 .lss 3 0] (.cond (.l 4) (zR [zm 5 0,⟨.l 6,.un .neg (.l 5),none⟩,⟨.l 7,.im .u64 (.l 6),none⟩,zw 1 7] (.ret)) (.skip))) (zR [zm 8 0,⟨.l 9,.im .u64 (.l 8),none⟩,zw 1 9] (.ret)))
theorem TA:FT 260=some ⟨10,[0,2],[.var (.p 1)],Iv⟩:=by kernel_rfl
def vC:ao:=zR [zx 1 171 2 0,⟨.p 2,.mv (.c (.bool false)),none⟩,⟨.p 3,.mv (.c (.ab)),none⟩] (.seq (.block 0 (zR [zf 5 1 1,zd 6 1 5,⟨.l 7,.eq true (.ref .slice) (.l 6) (.c (.ab)),none⟩,zn 4 7] (.cond (.l 4) (.seq (.draw [(zf 8 0 1,[]),(zd 9 1 8,[]),(zc 10 .lss 9 0,[]),(zf 11 1 1,[0,1,2]),(zd 12 1 11,[0,1,2]),(zw 2 10,[3,4]),(zw 3 12,[])]) (.ret)) (zR [zf 14 0 1,zd 15 1 14,zc 16 .eql 15 0,zn 13 16] (.cond (.l 13) (zR [⟨.p 2,.mv (.c (.bool false)),none⟩,⟨.p 3,.mv (.c (.ab)),none⟩] (.ret)) (.skip)))))) (.seq (.draw [(zf 17 0 1,[]),(zd 18 1 17,[]),(zc 19 .lss 18 0,[]),(zf 20 0 1,[0,1,2]),(zd 21 1 20,[0,1,2]),(z1 22 260 21,[0,1,2]),(⟨.l 23,.eo 274 1 1 [.uV (0)] [(0,1,(.l 22))],none⟩,[0,1,2]),(zw 2 19,[6]),(zw 3 23,[])]) (.ret)))
theorem Ck:FT 219=some ⟨24,[0,1,2,3],[.var (.p 2),.var (.p 3)],vC⟩:=by kernel_rfl
def ql:ao:=zR [⟨.p 2,.alloc 171 [.iV (0),.ab],none⟩] (.seq (.block 0 (zR [zm 6 1,zl 7 6,zc 8 .eql 7 0,zn 5 8] (.cond (.l 5) (zR [⟨.l 9,.build [.iV (0),.ab] [],none⟩,zs 2 2 9] (.ret)) (zR [zm 11 1,zl 12 11,zc 13 .eql 12 1,zn 14 13,zg (zm 15 1) 14 true,⟨.l 16,.fy none 1 (.l 15) (kI 0),some ((.l 14),true)⟩,zg (zd 17 1 16) 14 true,⟨.l 18,.bin .leq (.l 17) (kU 9223372036854775807),some ((.l 14),true)⟩,zp 19 14 18,zn 20 19,zg (zm 21 0) 20 true,zp 22 20 21,zn 10 22] (.cond (.l 10) (zR [zm 23 1,⟨.l 24,.fy none 1 (.l 23) (kI 0),none⟩,zd 25 1 24,⟨.l 26,.im .i64 (.l 25),none⟩,⟨.l 27,.un .neg (.l 26),none⟩,⟨.l 28,.build [.iV (0),.ab] [(0,1,(.l 27))],none⟩,zs 2 2 28] (.ret)) (zR [zm 30 1,zl 31 30,zc 32 .eql 31 1,zn 33 32,zg (zm 34 1) 33 true,⟨.l 35,.fy none 1 (.l 34) (kI 0),some ((.l 33),true)⟩,zg (zd 36 1 35) 33 true,⟨.l 37,.bin .leq (.l 36) (kU 9223372036854775807),some ((.l 33),true)⟩,zp 38 33 37,zn 29 38] (.cond (.l 29) (zR [zm 39 1,⟨.l 40,.fy none 1 (.l 39) (kI 0),none⟩,zd 41 1 40,⟨.l 42,.im .i64 (.l 41),none⟩,⟨.l 43,.build [.iV (0),.ab] [(0,1,(.l 42))],none⟩,zs 2 2 43] (.ret)) (zR [zm 45 0,zn 44 45] (.cond (.l 44) (zR [zm 46 1,⟨.l 47,.build [.iV (0),.ab] [(0,1,(kI (-1))),(1,1,(.l 46))],none⟩,zs 2 2 47] (.ret)) (.skip)))))))))) (zR [zm 48 1,⟨.l 49,.build [.iV (0),.ab] [(0,1,(kI 1)),(1,1,(.l 48))],none⟩,zs 2 2 49] (.ret)))
theorem rT:FT 261=some ⟨50,[0,1,4],[.cell 2 true (.p 2)],ql⟩:=by kernel_rfl
def Iw:ao:=zR [⟨.p 2,.mv (kU 0),none⟩,⟨.p 3,.mv (kU 0),none⟩] (zR [zm 14 0,⟨.l 15,.bin .and (.l 14) (kU 4294967295),none⟩,zw 4 15] (zR [zm 16 0,⟨.l 17,.bin .shr (.l 16) (kU 32),none⟩,zw 5 17] (zR [zm 18 1,⟨.l 19,.bin .and (.l 18) (kU 4294967295),none⟩,zw 6 19] (zR [zm 20 1,⟨.l 21,.bin .shr (.l 20) (kU 32),none⟩,zw 7 21] (zR [zm 22 4,zm 23 6,zb 24 .mul 22 23,zw 8 24] (zR [zm 25 5,zm 26 6,zb 27 .mul 25 26,zm 28 8,⟨.l 29,.bin .shr (.l 28) (kU 32),none⟩,zb 30 .add 27 29,zw 9 30] (zR [zm 31 9,⟨.l 32,.bin .and (.l 31) (kU 4294967295),none⟩,zw 10 32] (zR [zm 33 9,⟨.l 34,.bin .shr (.l 33) (kU 32),none⟩,zw 11 34] (zR [zm 35 10,zm 36 4,zm 37 7,zb 38 .mul 36 37,zb 39 .add 35 38,zw 10 39] (zR [zm 40 5,zm 41 7,zb 42 .mul 40 41,zm 43 11,zb 44 .add 42 43,zm 45 10,⟨.l 46,.bin .shr (.l 45) (kU 32),none⟩,zb 47 .add 44 46,zw 2 47] (zR [zm 48 0,zm 49 1,zb 50 .mul 48 49,zw 3 50] (.ret))))))))))))
theorem TB:FT 259=some ⟨51,[0,1,4,5,6,7,8,9,10,11,12,13],[.var (.p 2),.var (.p 3)],Iw⟩:=by kernel_rfl
def vD:ao:=.seq (zR [zm 67 12,⟨.l 68,.bin .geq (.l 67) (kU 4294967296),none⟩,zn 69 68,zg (zm 70 12) 69 false,zg (zm 71 7) 69 false,zg (zb 72 .mul 70 71) 69 false,zg (zm 73 13) 69 false,⟨.l 74,.bin .mul (kU 4294967296) (.l 73),some ((.l 69),false)⟩,zg (zm 75 10) 69 false,zg (zb 76 .add 74 75) 69 false,zg (zb 77 .gtr 72 76) 69 false,zP 78 69 77] (.cond (.l 78) (.skip) (.exit 0))) (.block 1 (zR [zm 79 12,⟨.l 80,.bin .sub (.l 79) (kU 1),none⟩,zw 12 80] (zR [zm 81 13,zm 82 6,zb 83 .add 81 82,zw 13 83] (zR [zm 84 13,⟨.l 85,.bin .geq (.l 84) (kU 4294967296),none⟩] (.cond (.l 85) (.exit 0) (.skip))))))
def vE:ao:=.seq (zR [zm 102 15,⟨.l 103,.bin .geq (.l 102) (kU 4294967296),none⟩,zn 104 103,zg (zm 105 15) 104 false,zg (zm 106 7) 104 false,zg (zb 107 .mul 105 106) 104 false,zg (zm 108 13) 104 false,⟨.l 109,.bin .mul (kU 4294967296) (.l 108),some ((.l 104),false)⟩,zg (zm 110 11) 104 false,zg (zb 111 .add 109 110) 104 false,zg (zb 112 .gtr 107 111) 104 false,zP 113 104 112] (.cond (.l 113) (.skip) (.exit 2))) (.block 3 (zR [zm 114 15,⟨.l 115,.bin .sub (.l 114) (kU 1),none⟩,zw 15 115] (zR [zm 116 13,zm 117 6,zb 118 .add 116 117,zw 13 118] (zR [zm 119 13,⟨.l 120,.bin .geq (.l 119) (kU 4294967296),none⟩] (.cond (.l 120) (.exit 2) (.skip))))))
def Ix:ao:=zR [⟨.p 3,.mv (kU 0),none⟩,⟨.p 4,.mv (kU 0),none⟩] (.seq (zR [zm 19 2,⟨.l 20,.bin .eql (.l 19) (kU 0),none⟩] (.cond (.l 20) (.bad) (.skip))) (.seq (zR [zm 22 2,zm 23 0,zb 24 .leq 22 23] (.cond (.l 24) (.bad) (.skip))) (.seq (zR [zm 26 0,⟨.l 27,.bin .eql (.l 26) (kU 0),none⟩] (.cond (.l 27) (.seq (.draw [(zm 28 1,[]),(zm 29 2,[0]),(zb 30 .quo 28 29,[]),(zm 31 1,[0,1,2]),(zm 32 2,[0,1,2,3]),(zb 33 .rem 31 32,[0,1,2]),(zw 3 30,[3,4,5]),(zw 4 33,[])]) (.ret)) (.skip))) (zR [zm 34 2,z1 35 289 34,⟨.l 36,.im .u64 (.l 35),none⟩,zw 5 36] (zR [zm 37 2,zm 38 5,zb 39 .shl 37 38,zw 2 39] (zR [zm 40 2,⟨.l 41,.bin .shr (.l 40) (kU 32),none⟩,zw 6 41] (zR [zm 42 2,⟨.l 43,.bin .and (.l 42) (kU 4294967295),none⟩,zw 7 43] (zR [zm 44 0,zm 45 5,zb 46 .shl 44 45,zm 47 1,zm 48 5,⟨.l 49,.bin .sub (kU 64) (.l 48),none⟩,zb 50 .shr 47 49,zb 51 .or 46 50,zw 8 51] (zR [zm 52 1,zm 53 5,zb 54 .shl 52 53,zw 9 54] (zR [zm 55 9,⟨.l 56,.bin .shr (.l 55) (kU 32),none⟩,zw 10 56] (zR [zm 57 9,⟨.l 58,.bin .and (.l 57) (kU 4294967295),none⟩,zw 11 58] (zR [zm 59 8,zm 60 6,zb 61 .quo 59 60,zw 12 61] (zR [zm 62 8,zm 63 12,zm 64 6,zb 65 .mul 63 64,zb 66 .sub 62 65,zw 13 66] (.seq (.block 0 (.loop vD)) (zR [zm 86 8,⟨.l 87,.bin .mul (.l 86) (kU 4294967296),none⟩,zm 88 10,zb 89 .add 87 88,zm 90 12,zm 91 2,zb 92 .mul 90 91,zb 93 .sub 89 92,zw 14 93] (zR [zm 94 14,zm 95 6,zb 96 .quo 94 95,zw 15 96] (zR [zm 97 14,zm 98 15,zm 99 6,zb 100 .mul 98 99,zb 101 .sub 97 100,zw 13 101] (.seq (.block 2 (.loop vE)) (zR [zm 121 12,⟨.l 122,.bin .mul (.l 121) (kU 4294967296),none⟩,zm 123 15,zb 124 .add 122 123,zm 125 14,⟨.l 126,.bin .mul (.l 125) (kU 4294967296),none⟩,zm 127 11,zb 128 .add 126 127,zm 129 15,zm 130 2,zb 131 .mul 129 130,zb 132 .sub 128 131,zm 133 5,zb 134 .shr 132 133,zw 3 124,zw 4 134] (.ret))))))))))))))))))))
theorem TC:FT 287=some ⟨135,[0,1,2,6,7,8,9,10,11,12,13,14,15,16,17,18],[.var (.p 3),.var (.p 4)],Ix⟩:=by kernel_rfl
def Iy:ao:=zR [zi 1 0] (zR [zm 3 0,z1 4 252 3,⟨.l 5,.bin .sub (kI 64) (.l 4),none⟩,zw 1 5] (.ret))
theorem TE:FT 289=some ⟨6,[0,2],[.var (.p 1)],Iy⟩:=by kernel_rfl
end Go.Ab.Ch5.N

/-
  Own work: numbers by their digits to a base, the least significant one first: values, parts, changes of a digit, the length without zeros.
-/
namespace Go.Ab.bl
def WV (b:Int):List Int->Int
 | []=>0
 | x::l=>x+b*WV b l
def okW (b:Int)(l:List Int):Prop:=∀x∈l,0<=x/\x<b
theorem iU {b:Int}:okW b []:=fun x hx=>by cases hx
theorem Iz {b x:Int}{l:List Int}(h:okW b (x::l)):(0<=x/\x<b)/\okW b l:=⟨h x am,fun y hy=>h y (by simp[hy])⟩
theorem cG {b:Int}{l:List Int}(h:okW b l){i:Nat}(hi:i<l.length):0<=l[i]! /\ l[i]! < b:=h _ (by rw[getElem!_pos l i hi];exact List.getElem_mem hi)
theorem gD {b:Int}{l:List Int}(h:okW b l){i:Nat}{v:Int}(hv:0<=v/\v<b):okW b (l.set i v):=fun x hx=>by
 rcases List.mem_or_eq_of_mem_set hx with hx|rfl
 . exact h x hx
 . exact hv
theorem ee {b:Int}{l:List Int}(h:okW b l)(n:Nat):okW b (l.take n):=fun x hx=>h x (List.mem_of_mem_take hx)
theorem js {b:Int}{l:List Int}(h:okW b l)(n:Nat):okW b (l.drop n):=fun x hx=>h x (List.mem_of_mem_drop hx)
theorem jL {b:Int}{l m:List Int}(h:okW b l)(k:okW b m):okW b (l++m):=fun x hx=>by
 rcases List.mem_append.1 hx with hx|hx
 . exact h x hx
 . exact k x hx
theorem kM {b:Int}(hb:0<b){n:Nat}:okW b (ck n 0):=fun x hx=>by
 rw[(jz.1 hx).2];omega
theorem fY {b:Int}:∀{l m:List Int},WV b (l++m)=WV b l+b^l.length*WV b m
 | [],m=>by simp[WV]
 | x::l,m=>by
  rw[ki,WV,WV,fY,fu,b7];grind
theorem lM {b:Int}{l:List Int}{i:Nat}(h:i<=l.length):WV b l=WV b (l.take i)+b^i*WV b (l.drop i):=by
 have:=fY (b:=b) (l:=l.take i) (m:=l.drop i);rwa [d8,bI,cP h]at this
theorem fI {b:Int}{l:List Int}{i:Nat}(h:i<l.length):WV b (l.take (i+1))=WV b (l.take i)+b^i*l[i]! := by
 rw[j4,fX h,getElem!_pos l i h,j0,fY,bI,cP ac];simp[WV]
theorem ot {b:Int}{l:List Int}{i:Nat}(h:i<l.length):WV b (l.drop i)=l[i]! + b*WV b (l.drop (i+1)):=by
 rw[c6 h,getElem!_pos l i h,WV]
theorem IA {b:Int}:∀{l:List Int},(∀x∈l,x=0)->WV b l=0
 | [],_=>rfl
 | x::l,h=>by rw[WV,h x am,IA fun y hy=>h y (by simp[hy])];simp
theorem kN {b:Int}{n:Nat}:WV b (ck n 0)=0:=IA fun _x hx=>(jz.1 hx).2
theorem gE {b:Int}:∀{l:List Int} {i:Nat} {v:Int},i<l.length->WV b (l.set i v)=WV b l+b^i*(v-l[i]!)
 | [],i,v,h=>by simp at h
 | x::l,0,v,h=>by simp[WV];omega
 | x::l,i+1,v,h=>by
  have e:(x::l)[i+1]! = l[i]! := by simp[bN]
  rw[j1,WV,WV,gE (by simpa using h),e,b7];grind
theorem rU {b:Int}(hb:0<b)(n:Nat):0<b^n:=b6 hb
theorem cK {b:Int}(hb:0<b):∀{l:List Int},okW b l->0<=WV b l
 | [],_=>Int.le_refl _
 | x::l,h=>by
  obtain⟨h1,h2⟩:=Iz h;have:=cn (bA hb) (cK hb h2);rw[WV];omega
theorem dM {b:Int}(hb:0<b):∀{l:List Int},okW b l->WV b l<b^l.length
 | [],_=>by simp[WV]
 | x::l,h=>by
  obtain⟨h1,h2⟩:=Iz h;have h3:=dM hb h2;have h4:b*(WV b l+1)<=b*b^l.length:=aY ac (bA hb);rw[WV,fu,b7,bW (b^l.length) b];rw[b8]at h4;omega
theorem iy {b:Int}(hb:1<b){m n:Nat}(h:m<=n):b^m<=b^n:=by
 obtain⟨k,rfl⟩:∃k,n=m+k:=⟨n-m,ac⟩;rw[dK];have h1:=rU (show 0<b by omega) m;have h2:=rU (show 0<b by omega) k;have h3:b^m*1<=b^m*b^k:=aY ac (bA h1);omega
def aX:List Int->Nat
 | []=>0
 | x::l=>if aX l=0 then (if x=0 then 0 else 1) else aX l+1
theorem iW:∀{l:List Int},aX l<=l.length
 | []=>ba _
 | x::l=>by
  have:=iW (l:=l);rw[aX,fu]
  (repeat' split) <;> omega
theorem IB:∀{l:List Int} {x:Int},aX (l++[x])=if x=0 then aX l else l.length+1
 | [],x=>by simp[aX]
 | y::l,x=>by
  rw[ki,aX,IB,aX,fu];by_cases hx:x=0
  . simp[hx]
  . simp[hx]
theorem ou {l:List Int}{i:Nat}(h:i<l.length):aX (l.take (i+1))=if l[i]! = 0 then aX (l.take i) else i+1:=by
 rw[j4,fX h,getElem!_pos l i h,j0,IB,bI,cP ac]
theorem vF {b:Int}:∀{l:List Int},WV b (l.take (aX l))=WV b l
 | []=>rfl
 | x::l=>by
  have ih:=vF (b:=b) (l:=l);rw[aX];by_cases h:aX l=0
  . rw[h]at ih;rw[if_pos h,WV,←ih];by_cases hx:x=0
    . rw[if_pos hx,hx];simp[WV]
    . rw[if_neg hx];simp[WV]
  . rw[if_neg h,i9,WV,WV,ih]
def aU (l:List Int):Prop:=aX l=l.length
theorem kl:aU []:=rfl
theorem Cl:∀{l:List Int},aU (l.take (aX l))
 | []=>rfl
 | x::l=>by
  have ih:=Cl (l:=l);have hle:=iW (l:=l);rw[aX];by_cases h:aX l=0
  . rw[if_pos h];by_cases hx:x=0
    . rw[if_pos hx];rfl
    . rw[if_neg hx];simp[aU,aX,hx]
  . rw[if_neg h,i9];unfold aU at ih ⊢;rw[bI,cP hle]at ih;rw[aX,fu,bI,cP hle,ih,if_neg h]
theorem ox {l:List Int}(h:aU l)(h0:0<l.length):l[l.length-1]! ≠ 0:=fun e=>by
 have:=ou (l:=l) (i:=l.length-1) ac;rw[show l.length-1+1=l.length by omega,c7,if_pos e]at this;have h2:=iW (l:=l.take (l.length-1));rw[bI]at h2;unfold aU at h;omega
theorem rV {l:List Int}(h:0<l.length):aU l↔l[l.length-1]! ≠ 0:=by
 refine⟨fun hn=>ox hn h,fun e=>?_⟩;have:=ou (l:=l) (i:=l.length-1) ac;rw[show l.length-1+1=l.length by omega,c7,if_neg e]at this;exact this
theorem qm {b:Int}(hb:1<b){l:List Int}(ok:okW b l)(h:aU l)(h0:0<l.length):b^(l.length-1)<=WV b l:=by
 have e:=lM (b:=b) (l:=l) (i:=l.length-1) ac;have h1:=cK ac (ee ok (l.length-1));have h2:=ot (b:=b) (l:=l) (i:=l.length-1) ac;rw[show l.length-1+1=l.length by omega,iK,WV,ce,c8]at h2;have h3:=ox h h0;have h4:=cG ok (i:=l.length-1) ac;rw[h2]at e;have h5:=rU (show 0<b by omega) (l.length-1);have h6:b^(l.length-1)*1<=b^(l.length-1)*l[l.length-1]! := aY ac (bA h5);omega
theorem ib {b:Int}(hb:1<b){l:List Int}(ok:okW b l)(h:aU l):0<WV b l↔l≠[]:=by
 constructor
 . rintro h1 rfl;simp[WV]at h1
 . intro h1;have h0:0<l.length:=List.length_pos_iff.2 h1;have:=qm hb ok h h0;have:=rU (show 0<b by omega) (l.length-1);omega
theorem oy {b:Int}(hb:1<b){l m:List Int}(okl:okW b l)(okm:okW b m)(hm:aU m)(h:l.length<m.length):WV b l<WV b m:=by
 have h1:=dM ac okl;have h2:=qm hb okm hm ac;have h3:=iy hb (show l.length<=m.length-1 by omega);omega
theorem gw {b:Int}(hb:1<b){l:List Int}(ok:okW b l)(h:aU l){n:Nat}(hv:WV b l<b^n):l.length<=n:=by
 rcases j5 n l.length with h1|h1
 . have h2:=qm hb ok h ac;have h3:=iy hb (show n<=l.length-1 by omega);omega
 . exact h1
end Go.Ab.bl

/-
  Own work: words of 64 binary digits: the product of two words.
-/
namespace Go.Ab.Ch5.N
open Go.Ab.bl
variable {M:az} {cap c1 c2:Option Nat}
theorem TH {x y:Int}(hx:0<=x/\x<18446744073709551616)(hy:0<=y/\y<18446744073709551616) :
 let x0:=x%4294967296;let x1:=x/4294967296;let y0:=y%4294967296;let y1:=y/4294967296
 (0<=x0*y0/\x0*y0<=18446744065119617025)/\(0<=x1*y0/\x1*y0<=18446744065119617025)/\(0<=x0*y1/\x0*y1<=18446744065119617025)/\(0<=x1*y1/\x1*y1<=18446744065119617025) /\
   x*y=x1*y1*18446744073709551616+(x1*y0+x0*y1)*4294967296+x0*y0:=by
 intro x0 x1 y0 y1;have a0:0<=x0/\x0<=4294967295:=by omega
 have a1:0<=x1/\x1<=4294967295:=by omega
 have b0:0<=y0/\y0<=4294967295:=by omega
 have b1:0<=y1/\y1<=4294967295:=by omega
 have up:∀{a b:Int},0<=a/\a<=4294967295->0<=b/\b<=4294967295->0<=a*b/\a*b<=18446744065119617025:=fun {a b} ha hb=>
  ⟨cn ha.1 hb.1,by have:=gu ha.2 hb.2 hb.1 ac;omega⟩
 refine⟨up a0 b0,up a1 b0,up a0 b1,up a1 b1,?_⟩;have ex:x=x1*4294967296+x0:=by omega
 have ey:y=y1*4294967296+y0:=by omega
 generalize x0=x0 at *
 generalize x1=x1 at *
 generalize y0=y0 at *
 generalize y1=y1 at *
 subst ex;subst ey;grind
theorem TK (hft:M.FT=FT)(x y:Int)(hx:0<=x/\x<18446744073709551616)(hy:0<=y/\y<18446744073709551616):bg M 259 [.uV x,.uV y] [] ⟨.ay [.uV (x*y/18446744073709551616),.uV (x*y%18446744073709551616)],[],[]⟩:=by
 obtain⟨p0,p1,p2,p3,e⟩:=TH hx hy;refine bU (by rw[hft];exact TB) am ?_;unfold Iw;simp only[enter];repeat' first|(apply agw;rfl;rfl;omega)|(apply afX (n:=32) (c:=4294967296);rfl;rfl;rfl;decide;rfl)|(apply afC;rfl;rfl;exact⟨ac,ac⟩)|(apply afF;rfl;rfl;exact⟨ac,ac⟩)|(apply age;rfl;rfl)|apply aaK|apply aa|apply aaI|apply aaC|apply abZ|(apply abx;rfl;rfl)|(apply abO;rfl;rfl)
 refine⟨.inr rfl,rfl,_,rfl,?_,rfl⟩;refine congrArg (fun u=>AV.ay [.uV u,.uV (x*y%18446744073709551616)]) ?_;omega
abbrev uC (x:Int):List AV:=[.uV x]
abbrev aq (l:List Int):List AV:=arr uC l
abbrev wB:Int:=18446744073709551616
theorem IC {l:List Int}:(aq l).length=l.length:=by
 have:=pP (f:=uC) (esz:=1) (fun _=>rfl) l;simpa using this
theorem TL {l:List Int}{m:Nat}(h:m<l.length):(aq l)[m]? = some (.uV l[m]!):=by
 induction l generalizing m with
 | nil=>simp at h
 | cons x l ih=>
  cases m with
  | zero=>rfl
  | succ m=>
   have e:(x::l)[m+1]! = l[m]! := by simp[bN]
   rw[e,←ih (by simpa using h)];rfl
section
variable {t b m:Nat} {x y:aS} {l:List bj} {pe:List AV} {lo:List (Nat×AV)} {hp:ae} {df wr:List Nat} {L:List Int} {e:TypeId} {v:Int} {Q:aw->Prop}
theorem afO (hx:(St.mk pe lo hp df).ah x=some (.ptr b m))(hb:hp.at b=some (.cells (aq L) e))(hi:m<L.length)
 (h:WO M l ⟨⟨pe,(t,.uV L[m]!)::lo,hp,df⟩,wr⟩ Q):WO M (⟨.l t,.load 1 false x,none⟩::l) ⟨⟨pe,lo,hp,df⟩,wr⟩ Q:=by
 refine WO.Hw (c:=aq L) (o:=m) (e:=e) (v:=.uV L[m]!) hx hb ?_ h;have h1:=TL hi;have h2:m<(aq L).length:=by rw[IC];exact hi
 rw[c6 h2];rw[fX h2]at h1;rw[Option.some.inj h1];rfl
theorem TM {L:List Int}{m:Nat}{v:Int}(h:m<L.length):overwrite (aq L) m (uC v)=aq (L.set m v):=by
 induction L generalizing m with
 | nil=>simp at h
 | cons x L ih=>
  cases m with
  | zero=>simp[overwrite,arr]
  | succ m=>
   have:=ih (m:=m) (by simpa using h);simp only[j1];have e1:aq (x::L) = .uV x::aq L:=rfl;have e2:aq (x::L.set m v) = .uV x::aq (L.set m v):=rfl;rw[e1,e2,←this];simp[overwrite]
theorem afH (hx:(St.mk pe lo hp df).ah x=some (.ptr b m))(hy:(St.mk pe lo hp df).ah y=some (.uV v))(hb:hp.at b=some (.cells (aq L) e))(hi:m<L.length)
 (h:WO M l ⟨⟨pe,lo,hp.put b (some (.cells (aq (L.set m v)) e)),df⟩,b::wr⟩ Q):WO M (⟨.no,.store 1 x y,none⟩::l) ⟨⟨pe,lo,hp,df⟩,wr⟩ Q:=
 afa (c:=aq L) (new:=uC v) hx (by rw[hy];rfl) hb ⟨rfl,by rw[IC];omega,rfl⟩ (TM hi) h
end
def bY (b n:Nat)(cap:Option Nat):AV:=if 0<n then .sl b 0 n 1 cap else .vs [] 0 cap
theorem agh {t n r b:Nat}{k:IntKind}{x y:aS}{l:List bj}{pe:List AV}{lo:List (Nat×AV)}{hp:ae}{df wr:List Nat}{Q:aw->Prop}(hx:(St.mk pe lo hp df).ah x=some (.sl b 0 n 1 cap))(hy:(St.mk pe lo hp df).ah y=some (.int k r))(hr:r<=n)(hc:∀c,cap=some c->n<=c)
 (h:WO M l ⟨⟨pe,(t,bY b r cap)::lo,hp,df⟩,wr⟩ Q):WO M (⟨.l t,.slice .sl 1 x none (some y) none,none⟩::l) ⟨⟨pe,lo,hp,df⟩,wr⟩ Q:=by
 have hcap:(0:Int)<=(r:Int)/\(r:Int)<=((cap.getD n:Nat):Int):=by
  refine⟨ac,?_⟩;cases cap with
  | none=>simp;omega
  | some c=>have:=hc c rfl;simp;omega
 have hcc:cap.map (fun x=>x)=cap:=by cases cap <;> simp
 refine abx (v:=bY b r cap) ?_ rfl h;unfold bY;simp only[br,hx,St.eK,hy,k9,jW,cA,j2,j3,l9,if_true,if_pos hcap,Nat.sub_zero,Nat.zero_mul,Nat.zero_add,cQ];split <;> simp[hcc]
theorem TN (hft:M.FT=FT){b n:Nat}{L:List Int}{e:TypeId}{hp:ae}(hb:hp.at b=some (.cells (aq L) e))(hn:n<=L.length)(hl:n<1000000000)(hc:∀c,cap=some c->n<=c) :
 bg M 288 [.sl b 0 n 1 cap] hp ⟨bY b (aX (L.take n)) cap,hp,[]⟩:=by
 have hbl:=gZ hb;refine mI (by rw[hft];exact Tt) am (by unfold bY;split <;> simp[AV.top,bG];omega) ?_;unfold Im;simp only[enter];repeat' first|apply aaK|apply aa|apply aaI|apply aaC|apply acu|(apply abx;rfl;rfl)|(apply abO;rfl;rfl)
 have fin:∀(r:Nat) a1 lo,r<=n->bY b r cap=bY b (aX (L.take n)) cap->SQ M (zR [zm 18 0,zm 19 2,⟨.l 20,.slice .sl 1 (.l 18) none (some (.l 19)) none,none⟩,zw 1 20] .ret)
  (fun x s=>(x = .normal\/x = .ret)/\s.s.cF=[]/\(∃J,s.s.hp=hp++J)/\(∀x∈s.wr,hp.length<=x)/\∃vs,dU s.s [.var (.p 1)]=some vs/\aT vs=bY b (aX (L.take n)) cap) .normal ⟨⟨[.sl b 0 n 1 cap,a1,.iV r],lo,hp,[]⟩,[]⟩:=fun r a1 lo hr he=>by
  repeat' first|apply aaK|apply aa|apply aaI|(apply abx;rfl;rfl)
  refine agh (k:=.i64) rfl rfl hr hc ?_;repeat' first|apply aa|apply aaC|apply abZ|(apply abO;rfl;rfl)
  rw[he];exact⟨.inr rfl,rfl,⟨[],am⟩,am,_,rfl,rfl⟩
 have loop:∀(r:Nat) lo a1,r<=n->aX (L.take r)=aX (L.take n)->W M (.loop vo) ⟨⟨[.sl b 0 n 1 cap,a1,.iV r],lo,hp,[]⟩,[]⟩ (BQ 0 (SQ M (zR [zm 18 0,zm 19 2,⟨.l 20,.slice .sl 1 (.l 18) none (some (.l 19)) none,none⟩,zw 1 20] .ret)
  (fun x s=>(x = .normal\/x = .ret)/\s.s.cF=[]/\(∃J,s.s.hp=hp++J)/\(∀x∈s.wr,hp.length<=x)/\∃vs,dU s.s [.var (.p 1)]=some vs/\aT vs=bY b (aX (L.take n)) cap))):=by
  intro r;induction r with
  | zero=>
   intro lo a1 hr he;refine W.loop ?_;unfold vo;repeat' first|(refine fin 0 _ _ ac (by rw[←he];rfl))|apply aaK|apply aa|apply aaI|apply aaC|apply acV|apply bh|apply bk|apply bJ|(apply acj;rfl)|(apply aeU;rfl)|(apply acI;rfl;rfl)|(apply adt;rfl;rfl)|(apply abx;rfl;rfl)|(intro _;omega)|intro _
   all_goals try omega
  | succ r ih=>
   intro lo a1 hr he;have e:=ou (l:=L) (i:=r) ac;have ei:0+((((r+1:Nat):Int)-1).toNat)*1=r:=by omega
   have er:((r+1:Nat):Int)-1=r:=by omega
   refine W.loop ?_;unfold vo;by_cases h0:L[r]! = 0
   . rw[if_pos h0]at e;repeat' first|(apply afO;exact congrArg (fun z=>some (AV.ptr b z)) ei;exact hb;omega)|apply aaK|apply aa|apply aaI|apply aaC|apply acu|apply acn|apply bc|(apply ack;rfl)|(apply adx;rfl)|(apply acI;rfl;rfl)|(apply adw;rfl;rfl)|(apply acJ;rfl;rfl)|(apply aeR;rfl;rfl;omega)|(apply afn;rfl;rfl;omega)|(apply abx;rfl;rfl)|(apply abO;rfl;rfl)|(intro _;omega)|intro _
     all_goals try omega
     refine fV ?_;have:=ih ((17,.iV (((r+1:Nat):Int)-1))::(16,.iV ((r+1:Nat):Int))::[]) a1 ac (e.symm.trans he);rw[←er]at this;exact this
   . rw[if_neg h0]at e;repeat' first|(apply afO;exact congrArg (fun z=>some (AV.ptr b z)) ei;exact hb;omega)|(refine fin (r+1) _ _ ac (by rw[←he,e]))|apply aaK|apply aa|apply aaI|apply aaC|apply acV|apply bh|apply bk|apply bJ|(apply acj;rfl)|(apply adx;rfl)|(apply acI;rfl;rfl)|(apply adw;rfl;rfl)|(apply acJ;rfl;rfl)|(apply aeR;rfl;rfl;omega)|(apply afn;rfl;rfl;omega)|(apply abx;rfl;rfl)|(intro _;omega)|intro _
     all_goals try omega
 exact loop n _ _ (ba _) rfl
def bB (x:Int):Int:=if x<0 then -1 else if 0<x then 1 else 0
theorem vG {B:Int}(hB:1<B){a b:List Int}(ha:okW B a)(hb:okW B b){i:Nat}(hi:i<a.length)(hi2:i<b.length)(hd:a.drop (i+1)=b.drop (i+1))(h:a[i]! < b[i]!):WV B a<WV B b:=by
 have e1:=lM (b:=B) (l:=a) (i:=i) ac;have e2:=lM (b:=B) (l:=b) (i:=i) ac;rw[ot hi]at e1;rw[ot hi2,←hd]at e2;have h1:=dM ac (ee ha i);have h2:=cK ac (ee hb i);rw[bI,cP ac]at h1;have h3:B^i*(a[i]! + B*WV B (a.drop (i+1))+1)<=B^i*(b[i]! + B*WV B (a.drop (i+1))):=aY ac (bA (rU ac i));rw[b8 _ _ 1,gF]at h3;omega
theorem TO (hft:M.FT=FT)(a b:List Int)(ha:okW wB a)(hb:okW wB b)(na:aU a)(nb:aU b)(la:a.length<1000000000)(_lb:b.length<1000000000) :
 bg M 286 [.vs (aq a) a.length c1,.vs (aq b) b.length c2] [] ⟨.iV (bB (WV wB a-WV wB b)),[],[]⟩:=by
 have hB:(1:Int)<wB:=by decide
 refine bU (by rw[hft];exact Tu) am ?_;unfold Io;simp only[enter];by_cases hl:a.length=b.length
 . repeat' first|apply aaK|apply aa|apply aaI|apply aaC|apply acu|apply acn|(apply acj;rfl)|(apply adH;rfl;rfl)|(apply aeR;rfl;rfl;omega)|(apply abx;rfl;rfl)|(apply abO;rfl;rfl)|(intro _;omega)|intro _
   all_goals try omega
   have loop:∀(r:Nat) lo a2,r<=a.length->a.drop r=b.drop r->W M (.loop vt) ⟨⟨[.vs (aq a) a.length c1,.vs (aq b) b.length c2,a2,.iV ((r:Int)-1)],lo,[],[]⟩,[]⟩ (BQ 0 (SQ M (zR [⟨.p 2,.mv (.c (.iV 0)),none⟩] .ret)
    fun e s=>(e = .normal\/e = .ret)/\s.s.cF=[]/\∃vs,dU s.s [.var (.p 2)]=some vs/\aT vs = .iV (bB (WV wB a-WV wB b))/\(if (AV.iV (bB (WV wB a-WV wB b))).top<=0 then [] else s.s.hp)=[])):=by
    intro r;induction r with
    | zero=>
     intro lo a2 hr hd;rw[gc,gc]at hd;refine W.loop ?_;unfold vt;repeat' first|apply aaK|apply aa|apply aaI|apply aaC|apply abZ|apply acV|apply bh|apply bk|apply bJ|(apply acj;rfl)|(apply aeY;rfl;rfl)|(apply abx;rfl;rfl)|(apply abO;rfl;rfl)|(intro _;omega)|intro _
     all_goals try omega
     exact⟨.inr rfl,rfl,_,rfl,by rw[hd,Int.sub_self];rfl,rfl⟩
    | succ r ih=>
     intro lo a2 hr hd;have er:((r+1:Nat):Int)-1=r:=by omega
     rw[er];refine W.loop ?_;unfold vt;by_cases he:a[((r:Int)).toNat]! = b[((r:Int)).toNat]!
     . have hd2:a.drop r=b.drop r:=by
        rw[c6 (show r<a.length by omega),c6 (show r<b.length by omega),hd,←getElem!_pos a r,←getElem!_pos b r];exact congrArg (· :: _) he
       repeat' first|apply aaK|apply aa|apply aaI|apply aaC|apply acu|apply acn|apply bc|(apply aeW;rfl)|(apply ack;rfl)|(apply acj;rfl)|(apply aeY;rfl;rfl)|(apply adH;rfl;rfl)|(apply aeR;rfl;rfl;omega)|(apply afb;rfl;rfl;omega)|(apply afo;rfl;exact fun _=>rfl;(first|omega|(simp only[aL];omega)|(simp;omega));decide;rfl;case ia=>infer_instance)|(apply abx;rfl;rfl)|(apply abO;rfl;rfl)|(intro _;omega)|intro _
       all_goals first|contradiction|(omega)|skip
       exact fV (ih _ _ ac hd2)
     . by_cases hlt:a[((r:Int)).toNat]! < b[((r:Int)).toNat]!
       . have:=vG hB ha hb (i:=r) ac ac hd hlt;repeat' first|apply aaK|apply aa|apply aaI|apply aaC|apply acu|apply abZ|apply acn|apply aP|apply bH|apply cz|(apply aeW;rfl)|(apply ack;rfl)|(apply acE;rfl;rfl)|(apply aeY;rfl;rfl)|(apply adH;rfl;rfl)|(apply afb;rfl;rfl;omega)|(apply afo;rfl;exact fun _=>rfl;(first|omega|(simp only[aL];omega)|(simp;omega));decide;rfl;case ia=>infer_instance)|(apply abx;rfl;rfl)|(apply abO;rfl;rfl)|(intro _;omega)|intro _
         all_goals first|contradiction|(omega)|exact⟨.inr rfl,rfl,_,rfl,by rw[bB,if_pos ac];rfl,rfl⟩
       . have:=vG hB hb ha (i:=r) ac ac hd.symm (show b[r]! < a[r]! from by
          have h1:a[r]! ≠ b[r]! := he;have h2:¬a[r]! < b[r]! := hlt;omega)
         repeat' first|apply aaK|apply aa|apply aaI|apply aaC|apply acu|apply abZ|apply acn|apply aP|apply bH|apply cz|(apply aeW;rfl)|(apply ack;rfl)|(apply acj;rfl)|(apply acE;rfl;rfl)|(apply aeY;rfl;rfl)|(apply adH;rfl;rfl)|(apply afb;rfl;rfl;omega)|(apply afo;rfl;exact fun _=>rfl;(first|omega|(simp only[aL];omega)|(simp;omega));decide;rfl;case ia=>infer_instance)|(apply abx;rfl;rfl)|(apply abO;rfl;rfl)|(intro _;omega)|intro _
         all_goals first|contradiction|(omega)|exact⟨.inr rfl,rfl,_,rfl,by rw[bB,if_neg ac,if_pos ac];rfl,rfl⟩
   exact loop a.length _ _ (ba _) (by rw[iK,hl,iK])
 . by_cases hlt:a.length<b.length
   . have:=oy hB ha hb nb hlt;repeat' first|apply aaK|apply aa|apply aaI|apply aaC|apply abZ|apply aP|(apply ack;rfl)|(apply acE;rfl;rfl)|(apply adH;rfl;rfl)|(apply abx;rfl;rfl)|(apply abO;rfl;rfl)|(intro _;omega)|intro _
     all_goals first|contradiction|(omega)|exact⟨.inr rfl,rfl,_,rfl,by rw[bB,if_pos ac];rfl,rfl⟩
   . have:=oy hB hb ha na ac;repeat' first|apply aaK|apply aa|apply aaI|apply aaC|apply abZ|apply acn|apply aP|(apply ack;rfl)|(apply acj;rfl)|(apply acE;rfl;rfl)|(apply adH;rfl;rfl)|(apply abx;rfl;rfl)|(apply abO;rfl;rfl)|(intro _;omega)|intro _
     all_goals first|contradiction|(omega)|exact⟨.inr rfl,rfl,_,rfl,by rw[bB,if_neg ac,if_pos ac];rfl,rfl⟩
def kO (v:AV)(hh:ae)(r:List Int):Prop:=∃v1,kK hh v v1/\v1.top=0/\cN v1 = .vs (aq r) r.length none
theorem TP (l:List Int):fe (aq l)=aq l:=AP (fun _=>rfl) l
theorem iz (l:List Int):bG (aq l)=0:=pO (fun _=>rfl) l
theorem kO.trim {b:Nat}{L:List Int}{e:TypeId}{hp:ae}{n:Nat}(hb:hp.at b=some (.cells (aq L) e))(hn:n<=L.length):kO (bY b (aX (L.take n)) cap) (if (aT [bY b (aX (L.take n)) cap]).top<=0 then [] else hp) (L.take (aX (L.take n))):=by
 have hle:=iW (l:=L.take n);rw[bI]at hle;obtain⟨k,hk⟩:∃k,k=aX (L.take n):=⟨_,rfl⟩;rw[←hk]at hle ⊢;by_cases h0:0<k
 . have e1:bY b k cap = .sl b 0 k 1 cap:=if_pos h0;rw[e1,if_neg (by simp[aT,AV.top])];have hl:(L.take k).length=k:=by rw[bI];omega
   have hF:Fr hp [b] (.sl b 0 k 1 cap) (.vs (aq (L.take k)) k none):=by
    refine .sl (m:=aq (L.take k)) (f6.2 rfl) hb ?_ rfl (fun i x y hx hy=>?_) (.inr rfl)
    . have:=lJ (f:=uC) (esz:=1) (fun _=>rfl) (l:=L) (i:=0) (n:=k) ac;simpa using this
    . rw[hx]at hy;cases hy;exact .same (dg (iz _) hx)
   unfold kO;rw[hl];refine⟨_,⟨[b],hF,rfl,fun c l' e' hc hl'=>?_⟩,iz _,by rw[cN,TP]⟩;rw[f6.1 hc,hb]at hl';cases hl';exact pN (fun _=>rfl) _
 . obtain rfl:k=0:=by omega
   exact⟨.vs [] 0 cap,.same rfl rfl,rfl,rfl⟩
theorem kP {n k:Nat}:(ck n (0:Int))[k]! = 0:=by
 rw[bN,List.getElem?_replicate];split <;> rfl
theorem ic {L:List Int}{i k:Nat}{v:Int}(h:i≠k):(L.set i v)[k]! = L[k]! := by
 rw[bN,bN,i7 h]
theorem vH {L:List Int}{i:Nat}{v:Int}(h:i<L.length):(L.set i v)[i]! = v:=by
 rw[bN,List.getElem?_set_self h];rfl
structure mP (M:az):Prop where
 ft:M.FT=FT
 vI:∀ars h,M.ext 288 ars h=none
 mQ:∀x y c h,0<=x->0<=y->0<=c->c<=1->M.ext 310 [.uV x,.uV y,.uV c] h=some ⟨.ay [.uV ((x+y+c)%18446744073709551616),.uV ((x+y+c)/18446744073709551616)],h,[]⟩
 vJ:∀(x y c:Int) h,0<=x->x<18446744073709551616->0<=y->y<18446744073709551616->0<=c->c<=1->M.ext 330 [.uV x,.uV y,.uV c] h=some ⟨.ay [.uV ((x-y-c)%18446744073709551616),.uV (if x<y+c then 1 else 0)],h,[]⟩
theorem mP.lO (C:mP M){b n:Nat}{L:List Int}{e:TypeId}{hp:ae}(hb:hp.at b=some (.cells (aq L) e))(hn:n<=L.length)(hl:n<1000000000)(hc:∀c,cap=some c->n<=c):CT M (.fn (.func 288) [] []) [.sl b 0 n 1 cap] hp ⟨bY b (aX (L.take n)) cap,hp,[]⟩:=
 CT.run (fi:=[]) (ca:=[]) (C.vI _ _) (TN C.ft hb hn hl hc)
def qo (M:az)(g:Nat)(ars:List AV)(z:Int):Prop:=∃r:List Int,(okW wB r/\aU r/\WV wB r=z)/\∃v hh,kO v hh r/\bg M g ars [] ⟨v,hh,[]⟩
theorem Cn {f N:Nat}{aV:List Nat}{res:List fK}{body:ao}{ars:List AV}{z:Int}(hft:M.FT f=some ⟨N,aV,res,body⟩)(hN:ars.length<=N)
 (h:W M body ⟨⟨aV.map (fun t=>(ars[t]?).getD cV),[],[],[]⟩,[]⟩ fun e s=>(e = .normal\/e = .ret)/\s.s.cF=[]/\∃vs,dU s.s res=some vs/\∃r:List Int,(okW wB r/\aU r/\WV wB r=z)/\kO (aT vs) (if (aT vs).top<=0 then [] else s.s.hp) r):qo M f ars z:=by
 obtain⟨v,hh,⟨r,hr,ho⟩,h2⟩:=iL (P:=fun v hh=>∃r:List Int,(okW wB r/\aU r/\WV wB r=z)/\kO v hh r) hft hN h;exact⟨r,hr,v,hh,ho,h2⟩
theorem mR {L:List Int}(ok:okW wB L):okW wB (L.take (aX L))/\aU (L.take (aX L))/\WV wB (L.take (aX L))=WV wB L:=⟨ee ok _,Cl,vF⟩
def fZ (y:List Int)(i:Nat):Int:=if i<y.length then y[i]! else 0
theorem rW {B:Int}{y:List Int}{i:Nat}:WV B (y.take (i+1))=WV B (y.take i)+B^i*fZ y i:=by
 unfold fZ;split
 . rename_i h;exact fI h
 . rename_i h;rw[aR ac,aR ac,ce,c8]
theorem ID {y:List Int}(ok:okW wB y)(i:Nat):0<=fZ y i/\fZ y i<wB:=by
 unfold fZ;split
 . rename_i h;exact cG ok h
 . exact⟨ak,ak⟩
theorem IE (C:mP M)(x y:List Int)(hx:okW wB x)(hy:okW wB y)(lx:x.length<100000000)(ly:y.length<=x.length){Q:Ex->aw->Prop}(a2 a5 a6:AV)(lo:List (Nat×AV))
 (hQ:∀L (c:Int) a5 a6 lo wr,L.length=x.length+1->okW wB L->(0<=c/\c<=1)->L[x.length]! = 0->WV wB L+wB^x.length*c=WV wB x+WV wB y ->
   Q (.exit 0) ⟨⟨[.vs (aq x) x.length c1,.vs (aq y) y.length c2,a2,.sl 0 0 (x.length+1) 1 (some (x.length+1)),.uV c,a5,a6,.iV x.length,.iV x.length],lo,[some (.cells (aq L) 274)],[]⟩,wr⟩) :
 W M (.loop vz) ⟨⟨[.vs (aq x) x.length c1,.vs (aq y) y.length c2,a2,.sl 0 0 (x.length+1) 1 (some (x.length+1)),.uV 0,a5,a6,.iV x.length,.iV 0],lo,[some (.cells (aq (ck (x.length+1) 0)) 274)],[]⟩,[]⟩ Q:=by
 refine W.jq x.length (fun i s=>∃L c a5 a6 lo wr,s=⟨⟨[.vs (aq x) x.length c1,.vs (aq y) y.length c2,a2,.sl 0 0 (x.length+1) 1 (some (x.length+1)),.uV c,a5,a6,.iV x.length,.iV i],lo,[some (.cells (aq L) 274)],[]⟩,wr⟩ /\
  L.length=x.length+1/\okW wB L/\(0<=c/\c<=1)/\(∀k,i<=k->L[k]! = 0)/\WV wB L+wB^i*c=WV wB (x.take i)+WV wB (y.take i)) (fun i s hi ⟨L,c,a5,a6,lo,wr,hs,hl,cj,hc,hz,hv⟩=>?_) (fun s ⟨L,c,a5,a6,lo,wr,hs,hl,cj,hc,hz,hv⟩=>?_) (ew _)
  ⟨_,_,_,_,_,_,rfl,am,kM ak,⟨ak,ak⟩,fun k _=>kP,by rw[kN];simp[WV]⟩
 . subst hs;have gx:=cG hx hi;rw[show x[i]! = x[((i:Int)).toNat]! from rfl]at gx;have gy:=ID hy i;obtain⟨v,hvv⟩:∃v,v=fZ y i:=⟨_,rfl⟩;rw[←hvv]at gy;have q310:=fun h=>C.mQ x[((i:Int)).toNat]! v c h gx.1 gy.1 hc.1 hc.2
   obtain⟨S,hS⟩:∃S,S=x[((i:Int)).toNat]! + v+c:=⟨_,rfl⟩;have hS2:0<=S/\S<2*18446744073709551616:=by
    have h1:x[((i:Int)).toNat]! < 18446744073709551616:=gx.2;have h2:v<18446744073709551616:=gy.2;omega
   have eI:0+((i:Int)).toNat*1=i:=by omega
   have next:∀a5 a6 lo wr,LI (fun s=>∃L c a5 a6 lo wr,s=⟨⟨[.vs (aq x) x.length c1,.vs (aq y) y.length c2,a2,.sl 0 0 (x.length+1) 1 (some (x.length+1)),.uV c,a5,a6,.iV x.length,.iV ((i+1:Nat):Int)],lo,[some (.cells (aq L) 274)],[]⟩,wr⟩ /\
    L.length=x.length+1/\okW wB L/\(0<=c/\c<=1)/\(∀k,i+1<=k->L[k]! = 0)/\WV wB L+wB^(i+1)*c=WV wB (x.take (i+1))+WV wB (y.take (i+1))) Q .normal ⟨⟨[.vs (aq x) x.length c1,.vs (aq y) y.length c2,a2,.sl 0 0 (x.length+1) 1 (some (x.length+1)),.uV (S/18446744073709551616),a5,a6,.iV x.length,.iV ((i:Int)+1)],lo,[some (.cells (aq (L.set i (S%18446744073709551616))) 274)],[]⟩,wr⟩:=fun a5 a6 lo wr=>
    ek ⟨_,_,a5,a6,lo,wr,rfl,by rw[aL];exact hl,gD cj ⟨ac,by show _<(18446744073709551616:Int);omega⟩,⟨ac,ac⟩,fun k hk=>by rw[ic ac];exact hz k ac,by
     rw[gE ac,hz i (ba _),fI hi,rW (y:=y),←hvv,b7];have e:S=x[i]! + v+c:=hS;have e2:S%18446744073709551616+18446744073709551616*(S/18446744073709551616)=S:=by omega
     have e3:wB^i*(S%18446744073709551616)+wB^i*18446744073709551616*(S/18446744073709551616)=wB^i*(x[i]! + v+c):=by rw[←e,←e2];grind
     show WV wB L+wB^i*(S%18446744073709551616-0)+wB^i*18446744073709551616*(S/18446744073709551616)=_;grind⟩
   unfold vz;by_cases hy2:i<y.length
   . have e:v=y[((i:Int)).toNat]! := by rw[hvv,fZ,if_pos hy2];rfl
     rw[e]at q310 hS;repeat' first|(apply afH;exact congrArg (fun z=>some (AV.ptr 0 z)) eI;rfl;rfl;omega)|apply aaK|apply aa|apply aaI|apply aaC|apply acu|apply acn|apply bc|(apply ack;rfl)|(apply acE;rfl;rfl)|(apply adz;rfl;rfl;omega)|(apply acq;rfl;rfl;first|exact q310 _)|(apply afb;rfl;rfl;omega)|(apply afn;rfl;rfl;omega)|(apply afo;rfl;exact fun _=>rfl;(first|omega|(simp only[aL];omega)|(simp;omega));decide;rfl;case ia=>infer_instance)|(apply abx;rfl;rfl)|(apply abO;rfl;rfl)|(intro _;omega)|intro _
     all_goals try omega
     rw[←hS];exact next _ _ _ _
   . have e:v=0:=by rw[hvv,fZ,if_neg hy2]
     rw[e]at q310 hS;repeat' first|(apply afH;exact congrArg (fun z=>some (AV.ptr 0 z)) eI;rfl;rfl;omega)|apply aaK|apply aa|apply aaI|apply aaC|apply acu|apply acn|apply bc|(apply ack;rfl)|(apply acj;rfl)|(apply acE;rfl;rfl)|(apply adz;rfl;rfl;omega)|(apply acq;rfl;rfl;first|exact q310 _)|(apply afb;rfl;rfl;omega)|(apply afn;rfl;rfl;omega)|(apply afo;rfl;exact fun _=>rfl;(first|omega|(simp only[aL];omega)|(simp;omega));decide;rfl;case ia=>infer_instance)|(apply abx;rfl;rfl)|(apply abO;rfl;rfl)|(intro _;omega)|intro _
     all_goals try omega
     rw[←hS];exact next _ _ _ _
 . subst hs;rw[c7,aR ly]at hv;unfold vz;repeat' first|apply aaK|apply aa|apply aaI|apply aaC|apply acV|apply bh|apply bF|(apply acj;rfl)|(apply acE;rfl;rfl)|(intro _;omega)|intro _
   all_goals try omega
   exact hQ L c a5 a6 _ _ hl cj hc (hz _ (ba _)) hv
theorem TT (C:mP M)(x y:List Int)(hx:okW wB x)(hy:okW wB y)(lx:x.length<100000000)(ly:y.length<100000000):qo M 308 [.vs (aq x) x.length c1,.vs (aq y) y.length c2] (WV wB x+WV wB y):=by
 have fin:∀(x y:List Int) (L:List Int) (c:Int),okW wB x->x.length<100000000->L.length=x.length+1->okW wB L->(0<=c/\c<=1)->L[x.length]! = 0->WV wB L+wB^x.length*c=WV wB x+WV wB y ->
  okW wB (L.set x.length c)/\WV wB (L.set x.length c)=WV wB x+WV wB y:=fun x y L c _ _ hl cj hc hz hv=>
  ⟨gD cj ⟨hc.1,by have:=hc.2;show c<(18446744073709551616:Int);omega⟩,by rw[gE ac,hz,fW];exact hv⟩
 refine Cn (by rw[C.ft];exact Ty) am ?_;unfold It;simp only[enter];by_cases hl:x.length<y.length
 . repeat' first|apply aaK|apply aa|apply aaI|apply aaC|apply acu|(apply ack;rfl)|(apply acE;rfl;rfl)|(apply adz;rfl;rfl;omega)|(apply afL;rfl;rfl;omega)|(apply abx;rfl;rfl)|(apply abO;rfl;rfl)|(intro _;omega)|intro _
   all_goals try omega
   refine IE (c1:=c2) (c2:=c1) C y x hy hx ly ac _ _ _ _ (fun L c a5 a6 lo wr h1 h2 h3 h4 h5=>?_);obtain⟨f1,f2⟩:=fin y x L c hy ly h1 h2 h3 h4 h5;have q:=C.lO (cap:=some (y.length+1)) (b:=0) (n:=y.length+1) (L:=L.set y.length c) (e:=274) (hp:=[some (.cells (aq (L.set y.length c)) 274)]) rfl (by rw[aL];omega) ac (fun c hc=>by cases hc;exact ba _);rw[aR (by rw[aL];omega)]at q;have eI:0+((y.length:Int)).toNat*1=y.length:=by omega
   repeat' first|(apply afH;exact congrArg (fun z=>some (AV.ptr 0 z)) eI;rfl;rfl;omega)|apply aaK|apply aa|apply aaI|apply aaC|apply abZ|apply bk|(apply afp;rfl;rfl;first|exact q)|(apply afn;rfl;rfl;omega)|(apply abx;rfl;rfl)|(apply abO;rfl;rfl)
   refine⟨.inr rfl,rfl,_,rfl,(L.set y.length c).take (aX (L.set y.length c)),?_,?_⟩
   . obtain⟨g1,g2,g3⟩:=mR f1;exact⟨g1,g2,by rw[g3,f2];omega⟩
   . have:=kO.trim (cap:=some (y.length+1)) (b:=0) (L:=L.set y.length c) (e:=274) (hp:=[some (.cells (aq (L.set y.length c)) 274)]) (n:=y.length+1) rfl (by rw[aL];omega);rw[aR (by rw[aL];omega)]at this;exact this
 . repeat' first|apply aaK|apply aa|apply aaI|apply aaC|apply acu|apply acn|(apply acj;rfl)|(apply acE;rfl;rfl)|(apply adz;rfl;rfl;omega)|(apply afL;rfl;rfl;omega)|(apply abx;rfl;rfl)|(apply abO;rfl;rfl)|(intro _;omega)|intro _
   all_goals try omega
   refine IE (c1:=c1) (c2:=c2) C x y hx hy lx ac _ _ _ _ (fun L c a5 a6 lo wr h1 h2 h3 h4 h5=>?_);obtain⟨f1,f2⟩:=fin x y L c hx lx h1 h2 h3 h4 h5;have q:=C.lO (cap:=some (x.length+1)) (b:=0) (n:=x.length+1) (L:=L.set x.length c) (e:=274) (hp:=[some (.cells (aq (L.set x.length c)) 274)]) rfl (by rw[aL];omega) ac (fun c hc=>by cases hc;exact ba _);rw[aR (by rw[aL];omega)]at q;have eI:0+((x.length:Int)).toNat*1=x.length:=by omega
   repeat' first|(apply afH;exact congrArg (fun z=>some (AV.ptr 0 z)) eI;rfl;rfl;omega)|apply aaK|apply aa|apply aaI|apply aaC|apply abZ|apply bk|(apply afp;rfl;rfl;first|exact q)|(apply afn;rfl;rfl;omega)|(apply abx;rfl;rfl)|(apply abO;rfl;rfl)
   refine⟨.inr rfl,rfl,_,rfl,(L.set x.length c).take (aX (L.set x.length c)),?_,?_⟩
   . obtain⟨g1,g2,g3⟩:=mR f1;exact⟨g1,g2,by rw[g3,f2]⟩
   . have:=kO.trim (cap:=some (x.length+1)) (b:=0) (L:=L.set x.length c) (e:=274) (hp:=[some (.cells (aq (L.set x.length c)) 274)]) (n:=x.length+1) rfl (by rw[aL];omega);rw[aR (by rw[aL];omega)]at this;exact this
theorem TU (C:mP M)(x y:List Int)(hx:okW wB x)(hy:okW wB y)(lx:x.length<100000000)(ly:y.length<=x.length){Q:Ex->aw->Prop}(a2 a5 a6:AV)(lo:List (Nat×AV))
 (hQ:∀L (c:Int) a5 a6 lo wr,L.length=x.length->okW wB L->(0<=c/\c<=1)->WV wB L-wB^x.length*c=WV wB x-WV wB y ->
   Q (.exit 0) ⟨⟨[.vs (aq x) x.length c1,.vs (aq y) y.length c2,a2,.sl 0 0 x.length 1 (some x.length),.uV c,a5,a6,.iV x.length,.iV x.length],lo,[some (.cells (aq L) 274)],[]⟩,wr⟩) :
 W M (.loop vB) ⟨⟨[.vs (aq x) x.length c1,.vs (aq y) y.length c2,a2,.sl 0 0 x.length 1 (some x.length),.uV 0,a5,a6,.iV x.length,.iV 0],lo,[some (.cells (aq (ck x.length 0)) 274)],[]⟩,[]⟩ Q:=by
 refine W.jq x.length (fun i s=>∃L c a5 a6 lo wr,s=⟨⟨[.vs (aq x) x.length c1,.vs (aq y) y.length c2,a2,.sl 0 0 x.length 1 (some x.length),.uV c,a5,a6,.iV x.length,.iV i],lo,[some (.cells (aq L) 274)],[]⟩,wr⟩ /\
  L.length=x.length/\okW wB L/\(0<=c/\c<=1)/\(∀k,i<=k->L[k]! = 0)/\WV wB L-wB^i*c=WV wB (x.take i)-WV wB (y.take i)) (fun i s hi ⟨L,c,a5,a6,lo,wr,hs,hl,cj,hc,hz,hv⟩=>?_) (fun s ⟨L,c,a5,a6,lo,wr,hs,hl,cj,hc,hz,hv⟩=>?_) (ew _)
  ⟨_,_,_,_,_,_,rfl,am,kM ak,⟨ak,ak⟩,fun k _=>kP,by rw[kN];simp[WV]⟩
 . subst hs;have gx:=cG hx hi;rw[show x[i]! = x[((i:Int)).toNat]! from rfl]at gx;have gy:=ID hy i;obtain⟨v,hvv⟩:∃v,v=fZ y i:=⟨_,rfl⟩;rw[←hvv]at gy;have q330:=fun h=>C.vJ x[((i:Int)).toNat]! v c h gx.1 gx.2 gy.1 gy.2 hc.1 hc.2
   obtain⟨S,hS⟩:∃S,S=x[((i:Int)).toNat]! - v-c:=⟨_,rfl⟩;obtain⟨D,hD⟩:∃D:Int,D=if x[((i:Int)).toNat]! < v+c then 1 else 0:=⟨_,rfl⟩
   have hD2:0<=D/\D<=1/\S=S%18446744073709551616-18446744073709551616*D:=by
    have h1:x[((i:Int)).toNat]! < 18446744073709551616:=gx.2;have h2:v<18446744073709551616:=gy.2;rw[hD];split <;> omega
   have eI:0+((i:Int)).toNat*1=i:=by omega
   have next:∀a5 a6 lo wr,LI (fun s=>∃L c a5 a6 lo wr,s=⟨⟨[.vs (aq x) x.length c1,.vs (aq y) y.length c2,a2,.sl 0 0 x.length 1 (some x.length),.uV c,a5,a6,.iV x.length,.iV ((i+1:Nat):Int)],lo,[some (.cells (aq L) 274)],[]⟩,wr⟩ /\
    L.length=x.length/\okW wB L/\(0<=c/\c<=1)/\(∀k,i+1<=k->L[k]! = 0)/\WV wB L-wB^(i+1)*c=WV wB (x.take (i+1))-WV wB (y.take (i+1))) Q .normal ⟨⟨[.vs (aq x) x.length c1,.vs (aq y) y.length c2,a2,.sl 0 0 x.length 1 (some x.length),.uV D,a5,a6,.iV x.length,.iV ((i:Int)+1)],lo,[some (.cells (aq (L.set i (S%18446744073709551616))) 274)],[]⟩,wr⟩:=fun a5 a6 lo wr=>
    ek ⟨_,_,a5,a6,lo,wr,rfl,by rw[aL];exact hl,gD cj ⟨ac,by show _<(18446744073709551616:Int);omega⟩,⟨hD2.1,hD2.2.1⟩,fun k hk=>by rw[ic ac];exact hz k ac,by
     rw[gE ac,hz i (ba _),fI hi,rW (y:=y),←hvv,b7];have e:S=x[i]! - v-c:=hS;have e3:wB^i*(S%18446744073709551616)-wB^i*18446744073709551616*D=wB^i*(x[i]! - v-c):=by rw[←e,bP,←f8,←hD2.2.2]
     show WV wB L+wB^i*(S%18446744073709551616-0)-wB^i*18446744073709551616*D=_;grind⟩
   unfold vB;by_cases hy2:i<y.length
   . have e:v=y[((i:Int)).toNat]! := by rw[hvv,fZ,if_pos hy2];rfl
     rw[e]at q330 hS hD;rw[←hS,←hD]at q330;repeat' first|(apply afH;exact congrArg (fun z=>some (AV.ptr 0 z)) eI;rfl;rfl;omega)|apply aaK|apply aa|apply aaI|apply aaC|apply acu|apply acn|apply bc|(apply ack;rfl)|(apply acE;rfl;rfl)|(apply adz;rfl;rfl;omega)|(apply acq;rfl;rfl;first|exact q330 _)|(apply afb;rfl;rfl;omega)|(apply afn;rfl;rfl;omega)|(apply afo;rfl;exact fun _=>rfl;(first|omega|(simp only[aL];omega)|(simp;omega));decide;rfl;case ia=>infer_instance)|(apply abx;rfl;rfl)|(apply abO;rfl;rfl)|(intro _;omega)|intro _
     all_goals try omega
     exact next _ _ _ _
   . have e:v=0:=by rw[hvv,fZ,if_neg hy2]
     rw[e]at q330 hS hD;rw[←hS,←hD]at q330;repeat' first|(apply afH;exact congrArg (fun z=>some (AV.ptr 0 z)) eI;rfl;rfl;omega)|apply aaK|apply aa|apply aaI|apply aaC|apply acu|apply acn|apply bc|(apply ack;rfl)|(apply acj;rfl)|(apply acE;rfl;rfl)|(apply adz;rfl;rfl;omega)|(apply acq;rfl;rfl;first|exact q330 _)|(apply afb;rfl;rfl;omega)|(apply afn;rfl;rfl;omega)|(apply afo;rfl;exact fun _=>rfl;(first|omega|(simp only[aL];omega)|(simp;omega));decide;rfl;case ia=>infer_instance)|(apply abx;rfl;rfl)|(apply abO;rfl;rfl)|(intro _;omega)|intro _
     all_goals try omega
     exact next _ _ _ _
 . subst hs;rw[c7,aR ly]at hv;unfold vB;repeat' first|apply aaK|apply aa|apply aaI|apply aaC|apply acV|apply bh|apply bF|(apply acj;rfl)|(apply acE;rfl;rfl)|(intro _;omega)|intro _
   all_goals try omega
   exact hQ L c a5 a6 _ _ hl cj hc hv
theorem TV (C:mP M)(x y:List Int)(hx:okW wB x)(hy:okW wB y)(lx:x.length<100000000)(ly:y.length<=x.length)(hle:WV wB y<=WV wB x):qo M 309 [.vs (aq x) x.length c1,.vs (aq y) y.length c2] (WV wB x-WV wB y):=by
 refine Cn (by rw[C.ft];exact Tz) am ?_;unfold Iu;simp only[enter];repeat' first|apply aaK|apply aa|apply aaI|apply aaC|apply acu|(apply afL;rfl;rfl;omega)|(apply abx;rfl;rfl)|(apply abO;rfl;rfl)
 all_goals try omega
 refine TU (c1:=c1) (c2:=c2) C x y hx hy lx ly _ _ _ _ (fun L c a5 a6 lo wr h1 h2 h3 h5=>?_);have h6:WV wB L=WV wB x-WV wB y:=by
  have h7:=dM (b:=wB) ak h2;rw[h1]at h7;have h8:c=0:=by
   rcases cT 0 c with h|h
   . have:c=1:=by omega
     subst this;rw[gF]at h5;omega
   . omega
  subst h8;rw[ce]at h5;omega
 have q:=C.lO (cap:=some x.length) (b:=0) (n:=x.length) (L:=L) (e:=274) (hp:=[some (.cells (aq L) 274)]) rfl ac ac (fun c hc=>by cases hc;exact ba _);rw[aR ac]at q;repeat' first|apply aaK|apply aa|apply aaI|apply aaC|apply abZ|apply bk|(apply afp;rfl;rfl;first|exact q)|(apply abx;rfl;rfl)|(apply abO;rfl;rfl)
 refine⟨.inr rfl,rfl,_,rfl,L.take (aX L),?_,?_⟩
 . obtain⟨g1,g2,g3⟩:=mR h2;exact⟨g1,g2,by rw[g3,h6]⟩
 . have:=kO.trim (cap:=some x.length) (b:=0) (L:=L) (e:=274) (hp:=[some (.cells (aq L) 274)]) (n:=x.length) rfl ac;rw[aR ac]at this;exact this
structure mS (M:az):Prop extends mP M where
 oz:∀(x y:Int) h,(0<=x/\x<18446744073709551616)->(0<=y/\y<18446744073709551616)->M.ext 259 [.uV x,.uV y] h=some ⟨.ay [.uV (x*y/18446744073709551616),.uV (x*y%18446744073709551616)],h,[]⟩
theorem vK {x y:Int}(hx:0<=x/\x<18446744073709551616)(hy:0<=y/\y<18446744073709551616):0<=x*y/\x*y<=340282366920938463426481119284349108225:=by
 refine⟨cn hx.1 hy.1,?_⟩;have:=gu (a:=x) (b:=y) (c:=18446744073709551615) (d:=18446744073709551615) ac ac hy.1 ac;omega
theorem TW (C:mS M)(a b:List Int)(hb:okW wB b)(la:a.length<10000000)(lb:b.length<10000000)(i:Nat)(hi:i<a.length)(x P:Int)(hx:0<=x/\x<18446744073709551616){Q:Ex->aw->Prop}(a2 a7 a8 a9 aA aB aC aD aE:AV)(lo:List (Nat×AV))(wr:List Nat)(L:List Int)(hl:L.length=a.length+b.length)(cj:okW wB L)(hz:∀k,i+b.length<=k->L[k]! = 0)(hv:WV wB L=P)
 (hQ:∀L (c:Int) a7 a8 a9 aA aB lo wr,L.length=a.length+b.length->okW wB L->(0<=c/\c<18446744073709551616)->(∀k,i+b.length<=k->L[k]! = 0)->WV wB L+wB^(i+b.length)*c=P+wB^i*x*WV wB b ->
   Q (.exit 2) ⟨⟨[.vs (aq a) a.length c1,.vs (aq b) b.length c2,a2,.sl 0 0 (a.length+b.length) 1 (some (a.length+b.length)),.iV i,.uV x,.uV c,a7,a8,a9,aA,aB,aC,aD,aE,.vs (aq b) b.length c2,.iV b.length,.iV b.length],lo,[some (.cells (aq L) 274)],[]⟩,wr⟩) :
 W M (.loop vu) ⟨⟨[.vs (aq a) a.length c1,.vs (aq b) b.length c2,a2,.sl 0 0 (a.length+b.length) 1 (some (a.length+b.length)),.iV i,.uV x,.uV 0,a7,a8,a9,aA,aB,aC,aD,aE,.vs (aq b) b.length c2,.iV b.length,.iV 0],lo,[some (.cells (aq L) 274)],[]⟩,wr⟩ Q:=by
 refine W.jq b.length (fun j s=>∃L c a7 a8 a9 aA aB lo wr,s=⟨⟨[.vs (aq a) a.length c1,.vs (aq b) b.length c2,a2,.sl 0 0 (a.length+b.length) 1 (some (a.length+b.length)),.iV i,.uV x,.uV c,a7,a8,a9,aA,aB,aC,aD,aE,.vs (aq b) b.length c2,.iV b.length,.iV j],lo,[some (.cells (aq L) 274)],[]⟩,wr⟩ /\
  L.length=a.length+b.length/\okW wB L/\(0<=c/\c<18446744073709551616)/\(∀k,i+b.length<=k->L[k]! = 0)/\WV wB L+wB^(i+j)*c=P+wB^i*x*WV wB (b.take j)) (fun j s hj ⟨L,c,a7,a8,a9,aA,aB,lo,wr,hs,hl,cj,hc,hz,hv⟩=>?_) (fun s ⟨L,c,a7,a8,a9,aA,aB,lo,wr,hs,hl,cj,hc,hz,hv⟩=>?_) (ew _)
  ⟨_,_,_,_,_,_,_,_,_,rfl,hl,cj,⟨ak,ak⟩,hz,by rw[hv];simp[WV]⟩
 . subst hs;have gy:=cG hb hj;rw[show b[j]! = b[((j:Int)).toNat]! from rfl]at gy;obtain⟨y,hy⟩:∃y,y=b[((j:Int)).toNat]! := ⟨_,rfl⟩;rw[←hy]at gy;have gy:0<=y/\y<18446744073709551616:=gy;have q259:=fun h=>C.oz x y h hx gy
   have hm:=vK hx gy;have hxy:∃m,m=x*y:=⟨_,rfl⟩;obtain⟨m,hmm⟩:=hxy;rw[←hmm]at q259 hm;have gL:=cG cj (i:=i+j) ac;obtain⟨w,hw⟩:∃w,w=L[i+j]! := ⟨_,rfl⟩;rw[←hw]at gL;have gL:0<=w/\w<18446744073709551616:=gL;have q1:=fun h=>C.mQ (m%18446744073709551616) w 0 h ac gL.1 ak ak
   have q2:=fun h=>C.mQ ((m%18446744073709551616+w+0)%18446744073709551616) c 0 h ac hc.1 ak ak
   obtain⟨R,hR⟩:∃R,R=((m%18446744073709551616+w+0)%18446744073709551616+c+0)%18446744073709551616:=⟨_,rfl⟩;obtain⟨D,hD⟩:∃D,D=m/18446744073709551616+(m%18446744073709551616+w+0)/18446744073709551616+((m%18446744073709551616+w+0)%18446744073709551616+c+0)/18446744073709551616:=⟨_,rfl⟩;have hD2:(0<=D/\D<18446744073709551616)/\m+w+c=R+18446744073709551616*D/\(0<=R/\R<18446744073709551616):=by omega
   have eI:0+(((i:Int)+(j:Int))).toNat*1=i+j:=by omega
   have next:∀a7 a8 a9 aA aB lo wr,LI (fun s=>∃L c a7 a8 a9 aA aB lo wr,s=⟨⟨[.vs (aq a) a.length c1,.vs (aq b) b.length c2,a2,.sl 0 0 (a.length+b.length) 1 (some (a.length+b.length)),.iV i,.uV x,.uV c,a7,a8,a9,aA,aB,aC,aD,aE,.vs (aq b) b.length c2,.iV b.length,.iV ((j+1:Nat):Int)],lo,[some (.cells (aq L) 274)],[]⟩,wr⟩ /\
    L.length=a.length+b.length/\okW wB L/\(0<=c/\c<18446744073709551616)/\(∀k,i+b.length<=k->L[k]! = 0)/\WV wB L+wB^(i+(j+1))*c=P+wB^i*x*WV wB (b.take (j+1))) Q .normal ⟨⟨[.vs (aq a) a.length c1,.vs (aq b) b.length c2,a2,.sl 0 0 (a.length+b.length) 1 (some (a.length+b.length)),.iV i,.uV x,.uV D,a7,a8,a9,aA,aB,aC,aD,aE,.vs (aq b) b.length c2,.iV b.length,.iV ((j:Int)+1)],lo,[some (.cells (aq (L.set (i+j) R)) 274)],[]⟩,wr⟩:=fun a7 a8 a9 aA aB lo wr=>
    ek ⟨_,_,a7,a8,a9,aA,aB,lo,wr,rfl,by rw[aL];exact hl,gD cj hD2.2.2,hD2.1,fun k hk=>by rw[ic ac];exact hz k hk,by
     rw[gE ac,←hw,fI hj,show i+(j+1)=(i+j)+1 from rfl,b7,show b[j]! = y from hy.symm];have e:=hD2.2.1;rw[hmm]at e;have e2:wB^(i+j)*(R-w)+wB^(i+j)*18446744073709551616*D=wB^(i+j)*(x*y+c):=by
      have:x*y+c=R-w+18446744073709551616*D:=by omega
      rw[this,b8,bP]
     have e3:wB^(i+j)=wB^i*wB^j:=dK _ _ _;show WV wB L+wB^(i+j)*(R-w)+wB^(i+j)*18446744073709551616*D=P+wB^i*x*(WV wB (b.take j)+wB^j*y);rw[jr,e2,b8,←jr,Int.add_right_comm,hv];rw[e3];grind⟩
   rw[hD,hR,hw]at next
   rw[hw]at q1 q2;rw[hy]at q259;unfold vu;repeat' first|(apply afO;exact congrArg (fun z=>some (AV.ptr 0 z)) eI;rfl;omega)|(apply afH;exact congrArg (fun z=>some (AV.ptr 0 z)) eI;rfl;rfl;omega)|(apply afF;rfl;rfl;exact⟨ac,ac⟩)|apply aaK|apply aa|apply aaI|apply aaC|apply acu|apply acn|apply bc|(apply ack;rfl)|(apply acE;rfl;rfl)|(apply adz;rfl;rfl;omega)|(apply acq;rfl;rfl;first|exact q259 _|exact q1 _|exact q2 _)|(apply afb;rfl;rfl;omega)|(apply afn;rfl;rfl;omega)|(apply afo;rfl;exact fun _=>rfl;(first|omega|(simp only[aL];omega)|(simp;omega));decide;rfl;case ia=>infer_instance)|(apply abx;rfl;rfl)|(apply abO;rfl;rfl)|(intro _;omega)|intro _
   exact next _ _ _ _ _ _ _
 . subst hs;rw[c7]at hv;unfold vu;repeat' first|apply aaK|apply aa|apply aaI|apply aaC|apply acV|apply bh|apply bF|(apply acj;rfl)|(apply acE;rfl;rfl)|(intro _;omega)|intro _
   all_goals try omega
   exact hQ L c a7 a8 a9 aA aB _ _ hl cj hc hz hv
theorem TX (C:mS M)(a b:List Int)(ha:okW wB a)(hb:okW wB b)(la:a.length<10000000)(lb:b.length<10000000):qo M 262 [.vs (aq a) a.length c1,.vs (aq b) b.length c2] (WV wB a*WV wB b):=by
 refine Cn (by rw[C.ft];exact Tv) am ?_;unfold Ip;simp only[enter];repeat' first|apply aaK|apply aa|apply aaI|apply aaC|apply acu|(apply adz;rfl;rfl;omega)|(apply afL;rfl;rfl;omega)|(apply abx;rfl;rfl)|(apply abO;rfl;rfl)
 have e0:((a.length:Int)+(b.length:Int)).toNat=a.length+b.length:=by omega
 rw[e0];refine W.jq a.length (fun i s=>∃L a4 a5 a6 a7 a8 a9 aA aB aF aG aH lo wr,s=⟨⟨[.vs (aq a) a.length c1,.vs (aq b) b.length c2,.ab,.sl 0 0 (a.length+b.length) 1 (some (a.length+b.length)),a4,a5,a6,a7,a8,a9,aA,aB,.vs (aq a) a.length c1,.iV a.length,.iV i,aF,aG,aH],lo,[some (.cells (aq L) 274)],[]⟩,wr⟩ /\
  L.length=a.length+b.length/\okW wB L/\(∀k,i+b.length<=k->L[k]! = 0)/\WV wB L=WV wB (a.take i)*WV wB b) (fun i s hi ⟨L,a4,a5,a6,a7,a8,a9,aA,aB,aF,aG,aH,lo,wr,hs,hl,cj,hz,hv⟩=>?_) (fun s ⟨L,a4,a5,a6,a7,a8,a9,aA,aB,aF,aG,aH,lo,wr,hs,hl,cj,hz,hv⟩=>?_) (ew _)
  ⟨ck (a.length+b.length) 0,_,_,_,_,_,_,_,_,_,_,_,_,_,rfl,am,kM ak,fun k _=>kP,by rw[kN];simp[WV]⟩
 . subst hs;have gx:=cG ha hi;rw[show a[i]! = a[((i:Int)).toNat]! from rfl]at gx;have eI:0+(((i:Int)+(b.length:Int))).toNat*1=i+b.length:=by omega
   unfold Cg;repeat' first|apply aaK|apply aa|apply aaI|apply aaC|apply acu|apply acn|(apply ack;rfl)|(apply acE;rfl;rfl)|(apply afb;rfl;rfl;omega)|(apply afo;rfl;exact fun _=>rfl;(first|omega|(simp only[aL];omega)|(simp;omega));decide;rfl;case ia=>infer_instance)|(apply abx;rfl;rfl)|(apply abO;rfl;rfl)|(intro _;omega)|intro _
   refine TW (c1:=c1) (c2:=c2) C a b hb la lb i hi a[((i:Int)).toNat]! _ gx _ _ _ _ _ _ _ _ _ _ _ L hl cj hz hv (fun L2 c a7 a8 a9 aA aB lo wr h1 h2 h3 h4 h5=>?_);repeat' first|(apply afH;exact congrArg (fun z=>some (AV.ptr 0 z)) eI;rfl;rfl;omega)|apply aa|apply aaI|apply aaC|apply bc|apply bk|(apply adz;rfl;rfl;omega)|(apply afn;rfl;rfl;omega)|(apply abx;rfl;rfl)|(apply abO;rfl;rfl)
   refine ek ⟨L2.set (i+b.length) c,_,_,_,_,_,_,_,_,_,_,_,_,_,rfl,by rw[aL];exact h1,gD h2 h3,fun k hk=>by rw[ic ac];exact h4 k ac,?_⟩;rw[gE ac,h4 _ (ba _),fW,h5,fI hi];show _=(WV wB (a.take i)+wB^i*a[i]!)*WV wB b;rw[c0];rfl
 . subst hs;rw[c7]at hv;have q:=C.lO (cap:=some (a.length+b.length)) (b:=0) (n:=a.length+b.length) (L:=L) (e:=274) (hp:=[some (.cells (aq L) 274)]) rfl ac ac (fun c hc=>by cases hc;exact ba _);rw[aR ac]at q;unfold Cg;repeat' first|apply aaK|apply aa|apply aaI|apply aaC|apply abZ|apply acV|apply bh|apply bk|apply bF|(apply acj;rfl)|(apply acE;rfl;rfl)|(apply afp;rfl;rfl;first|exact q)|(apply abx;rfl;rfl)|(apply abO;rfl;rfl)|(intro _;omega)|intro _
   refine⟨.inr rfl,rfl,_,rfl,L.take (aX L),?_,?_⟩
   . obtain⟨g1,g2,g3⟩:=mR cj;exact⟨g1,g2,by rw[g3,hv]⟩
   . have:=kO.trim (cap:=some (a.length+b.length)) (b:=0) (L:=L) (e:=274) (hp:=[some (.cells (aq L) 274)]) (n:=a.length+b.length) rfl ac;rw[aR ac]at this;exact this
def IF:ao:=zR [zi 1 0] (.seq (zR [zm 3 0,⟨.l 4,.bin .geq (.l 3) (kU 4294967296),none⟩] (.cond (.l 4) (zR [zm 5 0,⟨.l 6,.bin .shr (.l 5) (kU 32),none⟩,zw 0 6] (.region [zi 1 32])) (.skip))) (.seq (zR [zm 7 0,⟨.l 8,.bin .geq (.l 7) (kU 65536),none⟩] (.cond (.l 8) (zR [zm 9 0,⟨.l 10,.bin .shr (.l 9) (kU 16),none⟩,zw 0 10] (.region [zm 11 1,zc 12 .add 11 16,zw 1 12])) (.skip))) (.seq (zR [zm 13 0,⟨.l 14,.bin .geq (.l 13) (kU 256),none⟩] (.cond (.l 14) (zR [zm 15 0,⟨.l 16,.bin .shr (.l 15) (kU 8),none⟩,zw 0 16] (.region [zm 17 1,zc 18 .add 17 8,zw 1 18])) (.skip))) (zR [zm 19 1,zm 20 0,⟨.l 21,.im .u8 (.l 20),none⟩,⟨.l 22,.index (.c (.str zD0)) (.l 21),none⟩,⟨.l 23,.im .i64 (.l 22),none⟩,zb 24 .add 19 23,zw 1 24] (.ret)))))
theorem TY:FT 252=some ⟨25,[0,2],[.var (.p 1)],IF⟩:=by kernel_rfl
def eO (x:Int):Nat:=if x=0 then 0 else x.toNat.log2+1
theorem TZ {x:Int}{n:Nat}(h:2^n<=x/\x<2^(n+1)):eO x=n+1:=by
 have h0:0<x:=by have:=b6 (n:=2) (m:=n) ak;omega
 obtain⟨k,rfl⟩:=f9 (bA h0);have hk:k≠0:=by omega
 rw[eO,if_neg ac];have:(k:Int).toNat=k:=rfl;rw[this,(lc hk).2 ⟨by exact_mod_cast h.1,by exact_mod_cast h.2⟩]
theorem vM {x:Int}(h:0<x):1<=eO x/\2^(eO x-1)<=x/\x<2^eO x:=by
 obtain⟨k,rfl⟩:=f9 (bA h);have hk:k≠0:=by omega
 rw[eO,if_neg ac];have h1:=(lc hk).1 rfl;have:(k:Int).toNat=k:=rfl;rw[this];refine⟨ac,?_,?_⟩
 . rw[Nat.add_sub_cancel];exact_mod_cast h1.1
 . exact_mod_cast h1.2
theorem Co {x:Int}{n:Nat}(h:x<2^n)(h0:0<=x):eO x<=n:=by
 by_cases hx:x=0
 . simp[eO,hx]
 . obtain⟨h1,h2,h3⟩:=vM (show 0<x by omega);rcases j5 n (eO x) with h4|h4
   . have:(2:Int)^n<=2^(eO x-1):=iy ak ac;omega
   . exact h4
theorem Ua {x:Int}{s n:Nat}{u:Int}(hu:u=x/2^s)(_h0:0<=x)(h:2^n<=u/\u<2^(n+1)):eO x=s+n+1:=by
 have hp:=b6 (n:=2) (m:=s) ak;subst hu;refine TZ ⟨?_,?_⟩
 . have h1:=aY h.1 (bA hp);have h2:=i8 (x:=x) (k:=2^s) ac;rw[dK];omega
 . have h1:2^s*(x/2^s+1)<=2^s*2^(n+1):=aY ac (bA hp);have h2:=d6 (x:=x) (k:=2^s) hp;rw[b8]at h1;rw[show s+n+1=s+(n+1) by omega,dK];omega
def lQ:ax:=[0,1,2,2,3,3,3,3,4,4,4,4,4,4,4,4,5,5,5,5,5,5,5,5,5,5,5,5,5,5,5,5]++ck 32 6++ck 64 7++ck 128 8
theorem Ub:∀k:Fin 256,0<k.val->1<=(lQ[k.val]!).toNat/\2^((lQ[k.val]!).toNat-1)<=k.val/\k.val<2^((lQ[k.val]!).toNat-1+1):=by decide +kernel
theorem Uc {u:Int}(h0:0<u)(h:u<256):∃n:Nat,(lQ[u.toNat]!).toNat=n+1/\(2:Int)^n<=u/\u<2^(n+1):=by
 obtain⟨k,rfl⟩:=f9 (bA h0);obtain⟨h1,h2,h3⟩:=Ub ⟨k,ac⟩ (by simpa using h0);refine⟨(lQ[k]!).toNat-1,by simp only at h1;rw[show (k:Int).toNat=k from rfl];omega,?_,?_⟩
 . exact_mod_cast h2
 . exact_mod_cast h3
set_option maxRecDepth 100000 in
theorem Ud (hft:M.FT=FT)(x:Int)(hx:0<=x/\x<18446744073709551616):bg M 252 [.uV x] [] ⟨.iV (eO x),[],[]⟩:=by
 have key:∀(u:Int) (s:Nat),u=x/2^s->(0<u/\u<256)->((lQ[u.toNat]!).toNat:Int)+s=eO x:=fun u s hu h=>by
  obtain⟨n,e,h2⟩:=Uc h.1 h.2;rw[Ua hu hx.1 h2,e];omega
 have tl:lQ.length=256:=by decide +kernel
 have tb:∀k:Nat,(lQ[k]!).toNat<256:=fun k=>UInt8.toNat_lt _
 refine bU (by rw[hft];exact TY) am ?_;unfold IF;simp only[enter];repeat' first|(apply afX (n:=32) (c:=4294967296);rfl;rfl;rfl;decide;rfl)|(apply afX (n:=16) (c:=65536);rfl;rfl;rfl;decide;rfl)|(apply afX (n:=8) (c:=256);rfl;rfl;rfl;decide;rfl)|(apply agE;rfl)|(apply aft (s:=lQ);rfl;rfl;omega)|(apply afP;rfl;(have:=tb;refine⟨ac,?_⟩;exact Int.lt_trans (Int.ofNat_lt.2 (tb _)) ak))|(apply adz;rfl;rfl;exact⟨j6 ak (Int.add_nonneg ak (Int.natCast_nonneg _)),Int.lt_of_le_of_lt (Int.add_le_add (Int.le_refl _) (Int.ofNat_le.2 (Nat.le_of_lt (tb _)))) ak⟩)|(apply adz;rfl;rfl;omega)|apply aaK|apply aa|apply aaI|apply aaC|apply abZ|apply acn|(apply ack;rfl)|(apply acj;rfl)|(apply aeY;rfl;rfl)|(apply abx;rfl;rfl)|(apply abO;rfl;rfl)|(intro _;omega)|intro _
 all_goals try omega
 all_goals refine⟨.inr rfl,rfl,_,rfl,congrArg (fun z=>AV.iV z) ?_,rfl⟩
 . have e:x/4294967296/65536/256%256=x/4294967296/65536/256:=by omega
   rw[e,←key (x/4294967296/65536/256) 56 (by rw[show (2:Int)^56=72057594037927936 from rfl];omega) ⟨ac,ac⟩];omega
 . have e:x/4294967296/65536%256=x/4294967296/65536:=by omega
   rw[e,←key (x/4294967296/65536) 48 (by rw[show (2:Int)^48=281474976710656 from rfl];omega) ⟨ac,ac⟩];omega
 . have e:x/4294967296/256%256=x/4294967296/256:=by omega
   rw[e,←key (x/4294967296/256) 40 (by rw[show (2:Int)^40=1099511627776 from rfl];omega) ⟨ac,ac⟩];omega
 . have e:x/4294967296%256=x/4294967296:=by omega
   rw[e,←key (x/4294967296) 32 (by rw[show (2:Int)^32=4294967296 from rfl]) ⟨ac,ac⟩];omega
 . have e:x/65536/256%256=x/65536/256:=by omega
   rw[e,←key (x/65536/256) 24 (by rw[show (2:Int)^24=16777216 from rfl];omega) ⟨ac,ac⟩];omega
 . have e:x/65536%256=x/65536:=by omega
   rw[e,←key (x/65536) 16 (by rw[show (2:Int)^16=65536 from rfl]) ⟨ac,ac⟩];omega
 . have e:x/256%256=x/256:=by omega
   rw[e,←key (x/256) 8 (by rw[show (2:Int)^8=256 from rfl]) ⟨ac,ac⟩];omega
 . by_cases h0:x=0
   . subst h0;decide +kernel
   . have e:x%256=x:=by omega
     rw[e,←key x 0 am ⟨ac,ac⟩];omega
theorem Ue (hft:M.FT=FT)(x:Int)(hx:0<=x/\x<18446744073709551616)(Uf:∀h,M.ext 252 [.uV x] h=some ⟨.iV (eO x),h,[]⟩):bg M 289 [.uV x] [] ⟨.iV (64-eO x:Nat),[],[]⟩:=by
 have hb:eO x<=64:=Co (n:=64) hx.2 hx.1;refine bU (by rw[hft];exact TE) am ?_;unfold Iy;simp only[enter];repeat' first|apply aaK|apply aa|apply aaI|apply aaC|apply abZ|(apply aeR;rfl;rfl;omega)|(apply acq;rfl;rfl;first|exact Uf _)|(apply abx;rfl;rfl)|(apply abO;rfl;rfl)
 exact⟨.inr rfl,rfl,_,rfl,congrArg (fun z=>AV.iV z) ac,rfl⟩
structure gg (y1 y0 v w q r:Int):Prop where
 q0:0<=q
 r0:0<=r
 e:q*y1+r=v
 ge:(v*4294967296+w)/(y1*4294967296+y0)<=q
structure jt (y1 y0 v w:Int):Prop where
 h1:2147483648<=y1/\y1<4294967296
 h0:0<=y0/\y0<4294967296
 hv:0<=v/\v<y1*4294967296+y0
 hw:0<=w/\w<4294967296
variable {y1 y0 v w q r:Int}
theorem jt.lt (C:jt y1 y0 v w):0<=(v*4294967296+w)/(y1*4294967296+y0)/\(v*4294967296+w)/(y1*4294967296+y0)<4294967296:=by
 have h1:=C.h1;have h0:=C.h0;have hv:=C.hv;have hw:=C.hw;exact⟨dw ac ac,ci ac ac⟩
theorem gg.IG (C:jt y1 y0 v w)(I:gg y1 y0 v w q r):q<=4294967297:=by
 have h1:=C.h1;have h0:=C.h0;have hv:=C.hv;rcases cT 4294967297 q with h|h
 . have h2:4294967298*y1<=q*y1:=be ac ac;have h3:=I.e;have h4:=I.r0;omega
 . exact h
theorem gg.full (_C:jt y1 y0 v w)(I:gg y1 y0 v w q r):q*(y1*4294967296+y0)=(v-r)*4294967296+q*y0:=by
 have e:=I.e;have:v-r=q*y1:=by omega
 rw[this,b8,bP]
theorem gg.exit (C:jt y1 y0 v w)(I:gg y1 y0 v w q r)(h:q*y0<=4294967296*r+w):q=(v*4294967296+w)/(y1*4294967296+y0):=by
 have h1:=C.h1;have h0:=C.h0;have h2:q<=(v*4294967296+w)/(y1*4294967296+y0):=i5 ac (by rw[I.full C];omega);have:=I.ge;omega
theorem gg.dec (C:jt y1 y0 v w)(I:gg y1 y0 v w q r)(h:4294967296<=q\/4294967296*r+w<q*y0):gg y1 y0 v w (q-1) (r+y1):=by
 have h1:=C.h1;have h0:=C.h0;have hl:=C.lt;have hg:(v*4294967296+w)/(y1*4294967296+y0)<=q-1:=by
  rcases h with h|h
  . omega
  . have:(v*4294967296+w)/(y1*4294967296+y0)<q:=ci ac (by rw[I.full C];omega);omega
 exact⟨ac,by have:=I.r0;omega,by have:=I.e;rw[gR];omega,hg⟩
theorem gg.mT (C:jt y1 y0 v w)(I:gg y1 y0 v w q r)(h:4294967296<=r):q=(v*4294967296+w)/(y1*4294967296+y0):=by
 have h1:=C.h1;have h0:=C.h0;have hv:=C.hv;have hw:=C.hw;have hq:q<4294967296:=by
  rcases cT q 4294967296 with h'|h'
  . exact h'
  . have h2:4294967296*y1<=q*y1:=be h' ac;have:=I.e;omega
 refine I.exit C ?_;have h3:=gu (a:=q) (b:=y0) (c:=4294967295) (d:=4294967295) ac ac h0.1 ac;omega
theorem gg.init (C:jt y1 y0 v w):gg y1 y0 v w (v/y1) (v-v/y1*y1):=by
 have h1:=C.h1;have h0:=C.h0;have hv:=C.hv;have hw:=C.hw;have e1:=i8 (x:=v) (k:=y1) ac;have e2:=d6 (x:=v) (k:=y1) ac;have e3:y1*(v/y1)=v/y1*y1:=bW _ _;refine⟨dw hv.1 ac,ac,ac,?_⟩;have h5:(v*4294967296+w)/(y1*4294967296+y0)<=(v*4294967296+w)/(y1*4294967296):=by
  refine i5 ac ?_;have hl:=C.lt;have h6:=iX (v*4294967296+w) (show y1*4294967296+y0≠0 by omega);rw[b8]at h6;have:=cn hl.1 h0.1;omega
 have h6:(v*4294967296+w)/(y1*4294967296)=v/y1:=by
  rw[bW y1,←Int.ediv_ediv_of_nonneg ak];congr 1;omega
 omega
theorem gg.vN (C:jt y1 y0 v w)(h:q<4294967296)(h':0<=q):0<=q*y0/\q*y0<18446744073709551616:=by
 have h0:=C.h0;refine⟨cn h' h0.1,?_⟩;have h3:=gu (a:=q) (b:=y0) (c:=4294967295) (d:=4294967295) ac ac h0.1 ac;omega
theorem Ug (C:jt y1 y0 v w){Q:Ex->aw->Prop}(a0 a1 a2 a3 a4 a5 a8 a9 aB aE aF:AV)
 (hQ:∀r lo,Q (.exit 0) ⟨⟨[a0,a1,a2,a3,a4,a5,.uV y1,.uV y0,a8,a9,.uV w,aB,.uV ((v*4294967296+w)/(y1*4294967296+y0)),.uV r,aE,aF],lo,[],[]⟩,[]⟩) :
 ∀(n:Nat) (q r:Int) lo,q.toNat=n->gg y1 y0 v w q r->r<4294967296->W M (.loop vD) ⟨⟨[a0,a1,a2,a3,a4,a5,.uV y1,.uV y0,a8,a9,.uV w,aB,.uV q,.uV r,aE,aF],lo,[],[]⟩,[]⟩ Q:=by
 have h1:=C.h1;have h0:=C.h0;have hv:=C.hv;have hw:=C.hw;intro n;induction n with
 | zero=>
  intro q r lo hn I hr;have hq0:=I.q0;obtain rfl:q=0:=by omega
  have hr0:=I.r0;have eq:=I.exit C ac;refine W.loop ?_;unfold vD;repeat' first|(apply afC;rfl;rfl;omega)|(apply afF;rfl;rfl;omega)|apply aaK|apply aa|apply aaI|apply aaC|apply acV|apply bh|apply bJ|(apply acj;rfl)|(apply aew;rfl)|(apply acI;rfl;rfl)|(apply aeY;rfl;rfl)|(apply adt;rfl;rfl)|(apply abx;rfl;rfl)|(intro _;omega)|intro _
  all_goals try omega
  have:=hQ r;rw[←eq]at this;exact this _
 | succ n ih=>
  intro q r lo hn I hr;have hq0:=I.q0;have hr0:=I.r0;have hql:=I.IG C;refine W.loop ?_;unfold vD;by_cases hd:4294967296<=q\/4294967296*r+w<q*y0
  . have I2:=I.dec C hd;by_cases hb:4294967296<=q
    . by_cases hr2:4294967296<=r+y1
      . have e:=I2.mT C hr2;repeat' first|(apply afI;rfl;rfl;omega)|(apply afF;rfl;rfl;omega)|apply aaK|apply aa|apply aaI|apply aaC|apply acu|apply acV|apply acn|(apply cB;rfl)|apply bJ|(apply ack;rfl)|(apply afc;rfl)|(apply aeY;rfl;rfl)|(apply acJ;rfl;rfl)|(apply abx;rfl;rfl)|(apply abO;rfl;rfl)|(intro _;omega)|intro _
        all_goals try omega
        have:=hQ (r+y1);rw[←e]at this;exact this _
      . repeat' first|(apply afI;rfl;rfl;omega)|(apply afF;rfl;rfl;omega)|apply aaK|apply aa|apply aaI|apply aaC|apply acu|apply acn|apply bc|(apply ack;rfl)|(apply acj;rfl)|(apply afc;rfl)|(apply aeY;rfl;rfl)|(apply acJ;rfl;rfl)|(apply abx;rfl;rfl)|(apply abO;rfl;rfl)|(intro _;omega)|intro _
        all_goals try omega
        exact fV (ih _ _ _ ac I2 ac)
    . have hm:=gg.vN (q:=q) C ac hq0;obtain⟨P,hP⟩:∃P,P=q*y0:=⟨_,rfl⟩;rw[←hP]at hd hm;by_cases hr2:4294967296<=r+y1
      . have e:=I2.mT C hr2;repeat' first|(apply afI;rfl;rfl;omega)|(apply afF;rfl;rfl;omega)|(apply afC (a:=4294967296);rfl;rfl;omega)|(apply afC (a:=q) (b:=y0);rfl;rfl;rw[←hP];exact hm)|apply aaK|apply aa|apply aaI|apply aaC|apply acu|apply acV|apply acn|(apply cB;rfl)|apply bJ|(apply ack;rfl)|(apply aew;rfl)|(apply acI;rfl;rfl)|(apply aeY;rfl;rfl)|(apply adt;rfl;rfl)|(apply abx;rfl;rfl)|(apply abO;rfl;rfl)|(intro _;omega)|intro _
        all_goals try omega
        have:=hQ (r+y1);rw[←e]at this;exact this _
      . repeat' first|(apply afI;rfl;rfl;omega)|(apply afF;rfl;rfl;omega)|(apply afC (a:=4294967296);rfl;rfl;omega)|(apply afC (a:=q) (b:=y0);rfl;rfl;rw[←hP];exact hm)|apply aaK|apply aa|apply aaI|apply aaC|apply acu|apply acn|apply bc|(apply ack;rfl)|(apply acj;rfl)|(apply aew;rfl)|(apply acI;rfl;rfl)|(apply aeY;rfl;rfl)|(apply adt;rfl;rfl)|(apply abx;rfl;rfl)|(apply abO;rfl;rfl)|(intro _;omega)|intro _
        all_goals try omega
        exact fV (ih _ _ _ ac I2 ac)
  . have hm:=gg.vN (q:=q) C ac hq0;have e:=I.exit C ac;obtain⟨P,hP⟩:∃P,P=q*y0:=⟨_,rfl⟩;rw[←hP]at hd hm;repeat' first|(apply afF;rfl;rfl;omega)|(apply afC (a:=4294967296);rfl;rfl;omega)|(apply afC (a:=q) (b:=y0);rfl;rfl;rw[←hP];exact hm)|apply aaK|apply aa|apply aaI|apply aaC|apply acV|apply bh|apply bJ|(apply acj;rfl)|(apply aew;rfl)|(apply acI;rfl;rfl)|(apply aeY;rfl;rfl)|(apply adt;rfl;rfl)|(apply abx;rfl;rfl)|(intro _;omega)|intro _
    all_goals try omega
    have:=hQ r;rw[←e]at this;exact this _
theorem Uh (C:jt y1 y0 v w){Q:Ex->aw->Prop}(a0 a1 a2 a3 a4 a5 a8 a9 aA aC aE:AV)
 (hQ:∀r lo,Q (.exit 2) ⟨⟨[a0,a1,a2,a3,a4,a5,.uV y1,.uV y0,a8,a9,aA,.uV w,aC,.uV r,aE,.uV ((v*4294967296+w)/(y1*4294967296+y0))],lo,[],[]⟩,[]⟩) :
 ∀(n:Nat) (q r:Int) lo,q.toNat=n->gg y1 y0 v w q r->r<4294967296->W M (.loop vE) ⟨⟨[a0,a1,a2,a3,a4,a5,.uV y1,.uV y0,a8,a9,aA,.uV w,aC,.uV r,aE,.uV q],lo,[],[]⟩,[]⟩ Q:=by
 have h1:=C.h1;have h0:=C.h0;have hv:=C.hv;have hw:=C.hw;intro n;induction n with
 | zero=>
  intro q r lo hn I hr;have hq0:=I.q0;obtain rfl:q=0:=by omega
  have hr0:=I.r0;have eq:=I.exit C ac;refine W.loop ?_;unfold vE;repeat' first|(apply afC;rfl;rfl;omega)|(apply afF;rfl;rfl;omega)|apply aaK|apply aa|apply aaI|apply aaC|apply acV|apply bh|apply bJ|(apply acj;rfl)|(apply aew;rfl)|(apply acI;rfl;rfl)|(apply aeY;rfl;rfl)|(apply adt;rfl;rfl)|(apply abx;rfl;rfl)|(intro _;omega)|intro _
  all_goals try omega
  have:=hQ r;rw[←eq]at this;exact this _
 | succ n ih=>
  intro q r lo hn I hr;have hq0:=I.q0;have hr0:=I.r0;have hql:=I.IG C;refine W.loop ?_;unfold vE;by_cases hd:4294967296<=q\/4294967296*r+w<q*y0
  . have I2:=I.dec C hd;by_cases hb:4294967296<=q
    . by_cases hr2:4294967296<=r+y1
      . have e:=I2.mT C hr2;repeat' first|(apply afI;rfl;rfl;omega)|(apply afF;rfl;rfl;omega)|apply aaK|apply aa|apply aaI|apply aaC|apply acu|apply acV|apply acn|(apply cB;rfl)|apply bJ|(apply ack;rfl)|(apply afc;rfl)|(apply aeY;rfl;rfl)|(apply acJ;rfl;rfl)|(apply abx;rfl;rfl)|(apply abO;rfl;rfl)|(intro _;omega)|intro _
        all_goals try omega
        have:=hQ (r+y1);rw[←e]at this;exact this _
      . repeat' first|(apply afI;rfl;rfl;omega)|(apply afF;rfl;rfl;omega)|apply aaK|apply aa|apply aaI|apply aaC|apply acu|apply acn|apply bc|(apply ack;rfl)|(apply acj;rfl)|(apply afc;rfl)|(apply aeY;rfl;rfl)|(apply acJ;rfl;rfl)|(apply abx;rfl;rfl)|(apply abO;rfl;rfl)|(intro _;omega)|intro _
        all_goals try omega
        exact fV (ih _ _ _ ac I2 ac)
    . have hm:=gg.vN (q:=q) C ac hq0;obtain⟨P,hP⟩:∃P,P=q*y0:=⟨_,rfl⟩;rw[←hP]at hd hm;by_cases hr2:4294967296<=r+y1
      . have e:=I2.mT C hr2;repeat' first|(apply afI;rfl;rfl;omega)|(apply afF;rfl;rfl;omega)|(apply afC (a:=4294967296);rfl;rfl;omega)|(apply afC (a:=q) (b:=y0);rfl;rfl;rw[←hP];exact hm)|apply aaK|apply aa|apply aaI|apply aaC|apply acu|apply acV|apply acn|(apply cB;rfl)|apply bJ|(apply ack;rfl)|(apply aew;rfl)|(apply acI;rfl;rfl)|(apply aeY;rfl;rfl)|(apply adt;rfl;rfl)|(apply abx;rfl;rfl)|(apply abO;rfl;rfl)|(intro _;omega)|intro _
        all_goals try omega
        have:=hQ (r+y1);rw[←e]at this;exact this _
      . repeat' first|(apply afI;rfl;rfl;omega)|(apply afF;rfl;rfl;omega)|(apply afC (a:=4294967296);rfl;rfl;omega)|(apply afC (a:=q) (b:=y0);rfl;rfl;rw[←hP];exact hm)|apply aaK|apply aa|apply aaI|apply aaC|apply acu|apply acn|apply bc|(apply ack;rfl)|(apply acj;rfl)|(apply aew;rfl)|(apply acI;rfl;rfl)|(apply aeY;rfl;rfl)|(apply adt;rfl;rfl)|(apply abx;rfl;rfl)|(apply abO;rfl;rfl)|(intro _;omega)|intro _
        all_goals try omega
        exact fV (ih _ _ _ ac I2 ac)
  . have hm:=gg.vN (q:=q) C ac hq0;have e:=I.exit C ac;obtain⟨P,hP⟩:∃P,P=q*y0:=⟨_,rfl⟩;rw[←hP]at hd hm;repeat' first|(apply afF;rfl;rfl;omega)|(apply afC (a:=4294967296);rfl;rfl;omega)|(apply afC (a:=q) (b:=y0);rfl;rfl;rw[←hP];exact hm)|apply aaK|apply aa|apply aaI|apply aaC|apply acV|apply bh|apply bJ|(apply acj;rfl)|(apply aew;rfl)|(apply acI;rfl;rfl)|(apply aeY;rfl;rfl)|(apply adt;rfl;rfl)|(apply abx;rfl;rfl)|(intro _;omega)|intro _
    all_goals try omega
    have:=hQ r;rw[←e]at this;exact this _
theorem Ui {hi lo y:Int}{s:Nat}(hy:0<y)(_hh:0<=hi/\hi<y)(_hl:0<=lo/\lo<18446744073709551616){q R:Int}(h:(hi*18446744073709551616+lo)*2^s=q*(y*2^s)+R)(hR:0<=R/\R<y*2^s) :
 q=(hi*18446744073709551616+lo)/y/\R/2^s=(hi*18446744073709551616+lo)%y:=by
 have hp:=b6 (n:=2) (m:=s) ak;generalize (2:Int)^s=p at *
 generalize hi*18446744073709551616+lo=N at *
 have e1:R=(N-q*y)*p:=by rw[gR,h,←bP];omega
 have r0:0<=N-q*y:=by
  rcases cT (N-q*y) 0 with h'|h'
  . have:=b9 h' hp;omega
  . exact h'
 have r1:N-q*y<y:=by
  refine hZ (a:=p) ?_ (bA hp);omega
 have e2:N/y=q:=by
  rw[show N=(N-q*y)+y*q by rw[bW y q];omega,i6 _ _ ac,d7 r0 r1];omega
 refine⟨e2.symm,?_⟩;rw[e1,Int.mul_ediv_cancel _ ac,Int.emod_def,e2,bW y q]
theorem vO {s:Nat}(h:s<=64):(2:Int)^s*2^(64-s)=18446744073709551616:=by
 rw[←dK,show s+(64-s)=64 by omega];rfl
theorem Uj (hft:M.FT=FT)(hi lo y:Int)(hy:0<y/\y<18446744073709551616)(hh:0<=hi/\hi<y)(hl:0<=lo/\lo<18446744073709551616)(rX:∀h,M.ext 289 [.uV y] h=some ⟨.iV (64-eO y:Nat),h,[]⟩) :
 bg M 287 [.uV hi,.uV lo,.uV y] [] ⟨.ay [.uV ((hi*18446744073709551616+lo)/y),.uV ((hi*18446744073709551616+lo)%y)],[],[]⟩:=by
 refine bU (by rw[hft];exact TC) am ?_;unfold Ix;simp only[enter];by_cases h0:hi=0
 . subst h0;repeat' first|(apply agf;rfl;rfl;exact hl;exact hy.1)|(apply agD;rfl;rfl;exact hl.1;exact hy.1)|apply aaK|apply aa|apply aaI|apply aaC|apply abZ|apply acn|apply aP|(apply aeW;rfl)|(apply ack;rfl)|(apply acj;rfl)|(apply afK;rfl;rfl)|(apply adw;rfl;rfl)|(apply abx;rfl;rfl)|(apply abO;rfl;rfl)|(intro _;omega)|intro _
   all_goals try omega
   exact⟨.inr rfl,rfl,_,rfl,by rw[Int.zero_mul,j7];rfl,rfl⟩
 . obtain⟨b1,b2,b3⟩:=vM hy.1;have b4:eO y<=64:=Co (n:=64) hy.2 ac;obtain⟨s,hs⟩:∃s:Nat,s=64-eO y:=⟨_,rfl⟩;rw[←hs]at rX;have hs64:s<=63:=by omega
   have hp:=b6 (n:=2) (m:=s) ak;have hps:=vO (s:=s) ac;have hY1:9223372036854775808<=y*2^s:=by
    have h1:(2:Int)^(eO y-1)*2^s<=y*2^s:=be b2 (bA hp);rw[←dK,show eO y-1+s=63 by omega]at h1;exact j6 ak h1
   have hY2:y*2^s<18446744073709551616:=by
    have h1:y*2^s<2^eO y*2^s:=b9 b3 hp;rw[←dK,show eO y+s=64 by omega]at h1;exact Int.lt_of_lt_of_le h1 ak
   have hhs:0<=hi*2^s/\hi*2^s<y*2^s:=⟨cn hh.1 (bA hp),b9 hh.2 hp⟩;have hp2:=b6 (n:=2) (m:=64-s) ak;have hlo:0<=lo/2^(64-s)/\lo/2^(64-s)<2^s:=⟨dw hl.1 (bA hp2),ci hp2 (by rw[hps];exact hl.2)⟩;have hdv:hi*2^s%2^s=0:=ix _ _;have hlos:lo*2^s/18446744073709551616=lo/2^(64-s):=by
    rw[←hps,bW lo];exact iM _ _ hp
   have hN:(hi*18446744073709551616+lo)*2^s=(hi*2^s+lo/2^(64-s))*18446744073709551616+lo*2^s%18446744073709551616:=by
    rw[←hlos,c0,ii];omega
   have hv:hi*2^s+lo/2^(64-s)<y*2^s:=by
    have h1:(hi*18446744073709551616+lo)*2^s<(y*18446744073709551616)*2^s:=b9 ac hp;rw[hN,ii]at h1;omega
   repeat' first|(apply agc;rfl;omega)|(apply agu (L:=s) (a:=y);rfl;rfl;omega;exact⟨ac,hY2⟩)|(apply agu (L:=s) (a:=hi);rfl;rfl;omega;exact⟨hhs.1,ac⟩)|(apply afX (n:=32) (c:=4294967296);rfl;rfl;rfl;decide;rfl)|(apply agw;rfl;rfl;omega)|(apply afI (a:=64);rfl;rfl;omega)|(apply afV (n:=64-s) (a:=lo);rfl;rfl;omega;omega)|(apply agx s;rfl;rfl;omega;exact hlo;omega;exact hdv)|(apply aga (n:=s) (a:=lo);rfl;rfl;rfl;omega)|apply aaK|apply aa|apply aaI|apply aaC|apply acn|(apply acj;rfl)|(apply afK;rfl;rfl)|(apply adw;rfl;rfl)|(apply acq;rfl;rfl;first|exact rX _)|(apply abx;rfl;rfl)|(apply abO;rfl;rfl)|(intro _;omega)|intro _
   all_goals try omega
   have fin:=fun q R h=>Ui (hi:=hi) (lo:=lo) (y:=y) (s:=s) hy.1 hh hl (q:=q) (R:=R) h
   rw[hN]at fin;have hv0:0<=hi*2^s+lo/2^(64-s):=by omega
   have hu:0<=lo*2^s%18446744073709551616/\lo*2^s%18446744073709551616<18446744073709551616:=by omega
   generalize hi*2^s+lo/2^(64-s)=v at *
   generalize lo*2^s%18446744073709551616=u at *
   generalize y*2^s=Y at *
   have C1:jt (Y/4294967296) (Y%4294967296) v (u/4294967296):=⟨ac,ac,ac,ac⟩;have I1:=gg.init C1;have m1:0<=v/(Y/4294967296)*(Y/4294967296)/\v/(Y/4294967296)*(Y/4294967296)<=v:=⟨cn I1.q0 ac,by have:=I1.r0;omega⟩;have r1:v-v/(Y/4294967296)*(Y/4294967296)<4294967296:=by
    have:=d6 (x:=v) (k:=Y/4294967296) ac;rw[bW (Y/4294967296)]at this;omega
   repeat' first|(apply agf;rfl;rfl;omega;omega)|(apply afC (a:=v/(Y/4294967296)) (b:=Y/4294967296);rfl;rfl;omega)|(apply afI;rfl;rfl;omega)|apply aaK|apply aa|apply aaI|apply aaC|apply acu|(apply abx;rfl;rfl)|(apply abO;rfl;rfl)
   refine Ug C1 _ _ _ _ _ _ _ _ _ _ _ (fun r lo2=>?_) _ _ _ _ rfl I1 r1;have eY:Y/4294967296*4294967296+Y%4294967296=Y:=by omega
   have hQ:=C1.lt;rw[eY]at hQ ⊢;have hd1:=iX (v*4294967296+u/4294967296) (show Y≠0 by omega);have hd2:=g9 (v*4294967296+u/4294967296) (show 0<Y by omega);generalize (v*4294967296+u/4294967296)/Y=Q1 at *
   have hR1:∃R,R=v*4294967296+u/4294967296-Q1*Y:=⟨_,rfl⟩;obtain⟨R1,hR1⟩:=hR1;rw[c0,dL]at hd2;have eR:((v*4294967296%18446744073709551616+u/4294967296)%18446744073709551616-Q1*Y%18446744073709551616)%18446744073709551616=R1:=by omega
   have C2:jt (Y/4294967296) (Y%4294967296) R1 (u%4294967296):=⟨ac,ac,ac,ac⟩;have I2:=gg.init C2;have m2:0<=R1/(Y/4294967296)*(Y/4294967296)/\R1/(Y/4294967296)*(Y/4294967296)<=R1:=⟨cn I2.q0 ac,by have:=I2.r0;omega⟩;have r2:R1-R1/(Y/4294967296)*(Y/4294967296)<4294967296:=by
    have:=d6 (x:=R1) (k:=Y/4294967296) ac;rw[bW (Y/4294967296)]at this;omega
   repeat' first|(apply age;rfl;rfl)|(apply agd;rfl;rfl)|(apply agv;rfl;rfl)|apply aaK|apply aa|apply aaI|apply aaC|apply bk|(apply abx;rfl;rfl)|(apply abO;rfl;rfl)
   rw[eR];repeat' first|(apply agf;rfl;rfl;omega;omega)|(apply afC (a:=R1/(Y/4294967296)) (b:=Y/4294967296);rfl;rfl;omega)|(apply afI;rfl;rfl;omega)|apply aaK|apply aa|apply aaI|apply aaC|apply acu|(apply abx;rfl;rfl)|(apply abO;rfl;rfl)
   refine Uh C2 _ _ _ _ _ _ _ _ _ _ _ (fun r lo2=>?_) _ _ _ _ rfl I2 r2;have hQ2:=C2.lt;rw[eY]at hQ2 ⊢;have hd3:=iX (R1*4294967296+u%4294967296) (show Y≠0 by omega);have hd4:=g9 (R1*4294967296+u%4294967296) (show 0<Y by omega);generalize (R1*4294967296+u%4294967296)/Y=Q2 at *
   rw[c0,dL]at hd4;obtain⟨R2,hR2⟩:∃R,R=R1*4294967296+u%4294967296-Q2*Y:=⟨_,rfl⟩;have eR2:((R1*4294967296%18446744073709551616+u%4294967296)%18446744073709551616-Q2*Y%18446744073709551616)%18446744073709551616=R2:=by omega
   obtain⟨f1,f2⟩:=fin (Q1*4294967296+Q2) R2 (by rw[c0,ii Q1];omega) ac;repeat' first|(apply afC (a:=Q1) (b:=4294967296);rfl;rfl;omega)|(apply afF (a:=Q1*4294967296) (b:=Q2);rfl;rfl;omega)|(apply age;rfl;rfl)|(apply agd;rfl;rfl)|(apply agv;rfl;rfl)|(apply afV (n:=s);rfl;rfl;rfl;omega)|apply aaK|apply aa|apply aaI|apply aaC|apply abZ|apply bk|(apply abx;rfl;rfl)|(apply abO;rfl;rfl)
   refine⟨.inr rfl,rfl,_,rfl,?_,rfl⟩;rw[←f1,←f2,←eR2];rfl
theorem IH {hp:ae}{x y:Option cd}:ae.put (hp++[x]) hp.length y=hp++[y]:=by simp[ae.put]
section
variable {t m:Nat} {x y:aS} {l:List bj} {pe:List AV} {lo:List (Nat×AV)} {hp:ae} {df wr:List Nat} {L:List Int} {e:TypeId} {a b:Int} {Q:aw->Prop}
theorem agi (hx:(St.mk pe lo (hp++[some (.cells (aq L) e)]) df).ah x=some (.ptr hp.length m))(hy:(St.mk pe lo (hp++[some (.cells (aq L) e)]) df).ah y=some (.uV v))(hi:m<L.length)
 (h:WO M l ⟨⟨pe,lo,hp++[some (.cells (aq (L.set m v)) e)],df⟩,hp.length::wr⟩ Q):WO M (⟨.no,.store 1 x y,none⟩::l) ⟨⟨pe,lo,hp++[some (.cells (aq L) e)],df⟩,wr⟩ Q:=by
 refine afH hx hy cC hi ?_;rw[IH];exact h
theorem agj (m:Nat)(hx:(St.mk pe lo hp df).ah x=some (.uV a))(hy:(St.mk pe lo hp df).ah y=some (.uV b))(ha:0<=a/\a<2^m)(hb:0<=b/\b<18446744073709551616)(hm:m<=64)(hd:b%2^m=0)
 (h:WO M l ⟨⟨pe,(t,.uV (a+b))::lo,hp,df⟩,wr⟩ Q):WO M (⟨.l t,.bin .or x y,none⟩::l) ⟨⟨pe,lo,hp,df⟩,wr⟩ Q:=by
 have key:br ⟨pe,lo,hp,df⟩ (.bin .or x y)=br ⟨pe,lo,hp,df⟩ (.bin .or y x):=by
  simp only[br,hx,hy,dO,if_true];rw[BitVec.or_comm]
 obtain⟨⟨k,s',h1,h2⟩⟩:=agx (M:=M) (t:=t) (l:=l) (Q:=Q) m hy hx hb ha hm hd (by rw[j8];exact h);refine⟨⟨k,s',?_,h2⟩⟩;rw[←h1];simp only[fz,fa,cm,bx.bT,Bool.false_eq_true,if_false,key]
end
theorem Uk {hp:ae}{v:AV}{s:aw}{x:Option cd}(hh:s.s.hp=hp++[x])(hw:∀z∈s.wr,hp.length<=z)(hv:hp.length<v.top):gm v hp.length s=⟨v,hp++[x],[]⟩:=by
 unfold gm;have hf:s.wr.filter (· < hp.length)=[]:=by
  rw[List.filter_eq_nil_iff];intro z hz;have:=hw z hz;simp;omega
 rw[if_neg (by simp;omega),hh,hf]
theorem II (hft:M.FT=FT)(l:List Int)(hl:okW wB l)(ll:l.length<100000000)(s:Nat)(hs:s<=63)(hp:ae) :
 ∃r,(r.length=l.length+1/\okW wB r/\WV wB r=WV wB l*2^s)/\bg M 290 [.vs (aq l) l.length c1,.iV s] hp ⟨.sl hp.length 0 (l.length+1) 1 (some (l.length+1)),hp++[some (.cells (aq r) 274)],[]⟩:=by
 have hp2:=b6 (n:=2) (m:=s) ak;have hps:=vO (s:=s) ac;have hp3:=b6 (n:=2) (m:=64-s) ak;have key:=uW.Hz (M:=M) (f:=290) (ars:=[.vs (aq l) l.length c1,.iV s]) (h:=hp) (K:=fun hr=>∃r,(r.length=l.length+1/\okW wB r/\WV wB r=WV wB l*2^s)/\hr=⟨.sl hp.length 0 (l.length+1) 1 (some (l.length+1)),hp++[some (.cells (aq r) 274)],[]⟩) (by rw[hft];exact Tw) am (by
  unfold Iq;simp only[enter];repeat' first|apply aaK|apply aa|apply aaI|apply aaC|apply acu|(apply adz;rfl;rfl;omega)|(apply afL;rfl;rfl;omega)|(apply abx;rfl;rfl)|(apply abO;rfl;rfl)
  rw[show ((l.length:Int)+1).toNat=l.length+1 by omega];refine W.jq l.length (fun i s'=>∃L a4 a5 lo wr,s'=⟨⟨[.vs (aq l) l.length c1,.iV s,.ab,.sl hp.length 0 (l.length+1) 1 (some (l.length+1)),a4,a5,.vs (aq l) l.length c1,.iV l.length,.iV i],lo,hp++[some (.cells (aq L) 274)],[]⟩,wr⟩ /\
   L.length=l.length+1/\okW wB L/\(∀k,i<k->L[k]! = 0)/\(L[i]! < 2^s)/\WV wB L=WV wB (l.take i)*2^s/\∀z∈wr,hp.length<=z) (fun i s' hi ⟨L,a4,a5,lo,wr,hs',hL,cj,hz,hlt,hv,hw⟩=>?_) (fun s' ⟨L,a4,a5,lo,wr,hs',hL,cj,hz,hlt,hv,hw⟩=>?_) (ew _)
   ⟨_,_,_,_,_,rfl,am,kM ak,fun k _=>kP,by rw[kP];exact hp2,by rw[kN];simp[WV],am⟩
  . subst hs';have gx:=cG hl hi;rw[show l[i]! = l[((i:Int)).toNat]! from rfl]at gx;obtain⟨x,hx⟩:∃x,x=l[((i:Int)).toNat]! := ⟨_,rfl⟩;rw[←hx]at gx;have gx:0<=x/\x<18446744073709551616:=gx;have gL:=cG cj (i:=i) ac;have gL:0<=L[i]! /\ L[i]! < 18446744073709551616:=gL;have hm:0<=x*2^s%18446744073709551616/\x*2^s%18446744073709551616<18446744073709551616:=by omega
    have hd:x*2^s%18446744073709551616%2^s=0:=by
     rw[Int.emod_emod_of_dvd _ ⟨2^(64-s),hps.symm⟩];exact ix _ _
    have hq:x*2^s/18446744073709551616=x/2^(64-s):=by
     rw[←hps,bW x];exact iM _ _ hp2
    have hq2:0<=x/2^(64-s)/\x/2^(64-s)<2^s:=⟨dw gx.1 (bA hp3),ci hp3 (by rw[hps];exact gx.2)⟩;have hsB:(2:Int)^s<=9223372036854775808:=by
     have:=iy (b:=2) ak hs;exact j6 this ak
    have hsum:L[i]! + x*2^s%18446744073709551616<18446744073709551616:=by
     obtain⟨k,hk⟩:∃k,x*2^s%18446744073709551616=2^s*k:=⟨x*2^s%18446744073709551616/2^s,by have:=d9 (x*2^s%18446744073709551616) (2^s);omega⟩;have hk2:k<2^(64-s):=c9 (a:=2^s) (by rw[←hk,hps];exact hm.2) (bA hp2);have:=aY (show k+1<=2^(64-s) by omega) (bA hp2);rw[hps,b8,←hk]at this;omega
    have eI:0+((i:Int)).toNat*1=i:=by omega
    have eJ:0+((i:Int)+1).toNat*1=i+1:=by omega
    have fin:∀L':List Int,L'=(L.set i (L[i]! + x*2^s%18446744073709551616)).set (i+1) (x/2^(64-s))->L'.length=l.length+1/\okW wB L'/\(∀k,i+1<k->L'[k]! = 0)/\(L'[i+1]! < 2^s)/\WV wB L'=WV wB (l.take (i+1))*2^s:=fun L' hL'=>by
     subst hL';refine⟨by rw[aL,aL];exact hL,gD (gD cj ⟨ac,hsum⟩) ⟨hq2.1,by show _<(18446744073709551616:Int);omega⟩,fun k hk=>by rw[ic ac,ic ac];exact hz k ac,by rw[vH (by rw[aL];omega)];exact hq2.2,?_⟩;rw[gE (by rw[aL];omega),ic ac,hz (i+1) ac,gE ac,fI hi,hv,←hq,b7];have e1:x*2^s=x*2^s%18446744073709551616+18446744073709551616*(x*2^s/18446744073709551616):=by omega
     have e2:l[i]! = x:=hx.symm;rw[e2,c0,bP _ x];have e3:wB^i*(x*2^s)=wB^i*(x*2^s%18446744073709551616)+wB^i*(18446744073709551616*(x*2^s/18446744073709551616)):=by rw[←b8,←e1]
     rw[e3,show L[i]! + x*2^s%18446744073709551616-L[i]! = x*2^s%18446744073709551616 by omega,fW,bP (wB^i) wB];exact jr _ _ _
    have eset:¬(0:Int)<s->L.set i (L[i]! + x*2^s%18446744073709551616)=(L.set i (L[i]! + x*2^s%18446744073709551616)).set (i+1) (x/2^(64-s)):=fun h0=>by
     have hs0:s=0:=by omega
     have hx0:x/2^(64-s)=0:=by
      rw[hs0];exact d7 gx.1 gx.2
     have h1:(L.set i (L[i]! + x*2^s%18446744073709551616))[i+1]! = 0:=by rw[ic ac];exact hz (i+1) ac
     have h2:i+1<(L.set i (L[i]! + x*2^s%18446744073709551616)).length:=by rw[aL];omega
     rw[getElem!_pos (L.set i (L[i]! + x*2^s%18446744073709551616)) (i+1) h2]at h1;rw[hx0];exact((congrArg (fun z=>(L.set i (L[i]! + x*2^s%18446744073709551616)).set (i+1) z) h1.symm).trans (List.set_getElem_self h2)).symm
    subst hx;unfold Ch;by_cases h0:(0:Int)<s
    . repeat' first|(apply afO;exact congrArg (fun z=>some (AV.ptr hp.length z)) eI;exact cC;omega)|(apply aga (n:=s);rfl;rfl;rfl;omega)|(apply agj s;rfl;rfl;exact⟨gL.1,hlt⟩;exact hm;omega;exact hd)|(apply agi;exact congrArg (fun z=>some (AV.ptr hp.length z)) eI;rfl;omega)|(apply agi;exact congrArg (fun z=>some (AV.ptr hp.length z)) eJ;rfl;(rw[aL];omega))|(apply afV (n:=64-s);rfl;rfl;omega;omega)|apply aaK|apply aa|apply aaI|apply aaC|apply acu|apply acn|apply bc|apply adJ|apply adY|(apply aez;rfl)|(apply aeu;rfl;rfl;(first|(simp only[nca];rfl)|rfl))|(apply aeV;rfl;(first|(simp only[nca];rfl)|rfl);(first|(simp only[nca];rfl)|rfl))|(apply ack;rfl)|(apply acE;rfl;rfl)|(apply acI;rfl;rfl)|(apply adz;rfl;rfl;omega)|(apply aeR;rfl;rfl;omega)|(apply afb;rfl;rfl;omega)|(apply afn;rfl;rfl;omega)|(apply afo;rfl;exact fun _=>rfl;(first|omega|(simp only[aL];omega)|(simp;omega));decide;rfl;case ia=>infer_instance)|(apply abx;rfl;rfl)|(apply abO;rfl;rfl)|(intro _;omega)|intro _
      all_goals try omega
      obtain⟨f1,f2,f3,f4,f5⟩:=fin _ rfl;exact ek ⟨_,_,_,_,_,rfl,f1,f2,f3,f4,f5,by intro z hz';simp at hz';rcases hz' with rfl|hz';exact ba _;exact hw z hz'⟩
    . repeat' first|(apply afO;exact congrArg (fun z=>some (AV.ptr hp.length z)) eI;exact cC;omega)|(apply aga (n:=s);rfl;rfl;rfl;omega)|(apply agj s;rfl;rfl;exact⟨gL.1,hlt⟩;exact hm;omega;exact hd)|(apply agi;exact congrArg (fun z=>some (AV.ptr hp.length z)) eI;rfl;omega)|apply aaK|apply aa|apply aaI|apply aaC|apply acu|apply acn|apply bc|apply adJ|apply adY|(apply aez;rfl)|(apply aeu;rfl;rfl;(first|(simp only[nca];rfl)|rfl))|(apply aeV;rfl;(first|(simp only[nca];rfl)|rfl);(first|(simp only[nca];rfl)|rfl))|(apply ack;rfl)|(apply acj;rfl)|(apply acE;rfl;rfl)|(apply acI;rfl;rfl)|(apply adz;rfl;rfl;omega)|(apply afb;rfl;rfl;omega)|(apply afn;rfl;rfl;omega)|(apply afo;rfl;exact fun _=>rfl;(first|omega|(simp only[aL];omega)|(simp;omega));decide;rfl;case ia=>infer_instance)|(apply abx;rfl;rfl)|(apply abO;rfl;rfl)|(intro _;omega)|intro _
      all_goals try omega
      obtain⟨f1,f2,f3,f4,f5⟩:=fin _ (eset h0);exact ek ⟨_,_,_,_,_,rfl,f1,f2,f3,f4,f5,by intro z hz';simp at hz';rcases hz' with rfl|hz';exact ba _;exact hw z hz'⟩
  . subst hs';rw[c7]at hv;unfold Ch;repeat' first|apply aaK|apply aa|apply aaI|apply aaC|apply abZ|apply acV|apply bh|apply bk|apply bF|(apply acj;rfl)|(apply acE;rfl;rfl)|(apply abx;rfl;rfl)|(apply abO;rfl;rfl)|(intro _;omega)|intro _
    all_goals try omega
    exact⟨.inr rfl,_,rfl,_,rfl,L,⟨hL,cj,hv⟩,Uk rfl hw (by simp[aT,AV.top])⟩)
 obtain⟨hr,h1,r,h2,rfl⟩:=key.out;exact⟨r,h2,h1⟩
end Go.Ab.Ch5.N

/-
  Own work: Knuth's division: the guess of a digit is at most one too great.
-/
namespace Go.Ab.bl
structure ju (t2 t1 t0 v1 v0 T V p:Int):Prop where
 h2:0<=t2
 h1:0<=t1/\t1<18446744073709551616
 h0:0<=t0/\t0<18446744073709551616
 w1:9223372036854775808<=v1/\v1<18446744073709551616
 w0:0<=v0/\v0<18446744073709551616
 hp:1<=p
 lo:((t2*18446744073709551616+t1)*18446744073709551616+t0)*p<=T
 hi:T<((t2*18446744073709551616+t1)*18446744073709551616+t0+1)*p
 qp:(v1*18446744073709551616+v0)*p<=V
 rY:V<(v1*18446744073709551616+v0+1)*p
 hT:T<18446744073709551616*V
structure iA (t2 t1 v1 T V q r:Int):Prop where
 q0:0<=q/\q<18446744073709551616
 r0:0<=r
 e:q*v1+r=t2*18446744073709551616+t1
 ge:T<(q+1)*V
variable {t2 t1 t0 v1 v0 T V p q r:Int}
theorem ju.top (C:ju t2 t1 t0 v1 v0 T V p):t2<=v1:=by
 have h1:=C.h1;have h0:=C.h0;have w0:=C.w0;have a1:((t2*18446744073709551616+t1)*18446744073709551616+t0)*p<(18446744073709551616*(v1*18446744073709551616+v0+1))*p:=by
  have:=C.lo;have:=C.hT;have:=C.rY;rw[bP 18446744073709551616];omega
 have a2:=hZ a1 (by have:=C.hp;omega);omega
theorem ju.geq (C:ju t2 t1 t0 v1 v0 T V p)(h0:0<=q)(h:(t2*18446744073709551616+t1)*18446744073709551616+t0+1<=q*(v1*18446744073709551616+v0)):T<q*V:=by
 have hp:=C.hp;have a1:=be h (show 0<=p by omega);have a2:=aY C.qp h0;rw[←bP]at a2;have:=C.hi;omega
theorem iA.qD (I:iA t2 t1 v1 T V q r):q*(v1*18446744073709551616+v0)=(t2*18446744073709551616+t1-r)*18446744073709551616+q*v0:=by
 have e:=I.e;have:t2*18446744073709551616+t1-r=q*v1:=by omega
 rw[this,b8,bP]
theorem iA.Ul (C:ju t2 t1 t0 v1 v0 T V p)(h:v1<=t2):iA t2 t1 v1 T V 18446744073709551615 (t1+v1):=by
 have:=C.top;have:=C.h1;have:=C.w1;have:=C.hT;exact⟨ac,ac,ac,ac⟩
theorem iA.Um (C:ju t2 t1 t0 v1 v0 T V p)(h:t2<v1):iA t2 t1 v1 T V ((t2*18446744073709551616+t1)/v1) ((t2*18446744073709551616+t1)%v1):=by
 have h2:=C.h2;have h1:=C.h1;have w1:=C.w1;have h0:=C.h0;have w0:=C.w0;have q0:0<=(t2*18446744073709551616+t1)/v1:=dw ac ac;have q1:(t2*18446744073709551616+t1)/v1<18446744073709551616:=ci ac ac;have e:=d9 (t2*18446744073709551616+t1) v1;have r0:=hJ (t2*18446744073709551616+t1) (show v1≠0 by omega);have r1:=f7 (t2*18446744073709551616+t1) (show 0<v1 by omega);rw[bW]at e;refine⟨⟨q0,q1⟩,r0,e,C.geq ac ?_⟩;generalize (t2*18446744073709551616+t1)/v1=q at *
 generalize (t2*18446744073709551616+t1)%v1=r at *
 have a1:(q+1)*(v1*18446744073709551616+v0)=(q*v1+v1)*18446744073709551616+(q+1)*v0:=by grind
 have a2:0<=(q+1)*v0:=cn ac w0.1;rw[a1];generalize q*v1=z at *
 generalize (q+1)*v0=y at *
 omega
theorem iA.dec (C:ju t2 t1 t0 v1 v0 T V p)(I:iA t2 t1 v1 T V q r)(h:r*18446744073709551616+t0<q*v0):iA t2 t1 v1 T V (q-1) (r+v1):=by
 have w1:=C.w1;have q0:=I.q0;have r0:=I.r0;have h0:=C.h0;have q1:0<q:=by
  rcases cT 0 q with h'|h'
  . exact h'
  . obtain rfl:q=0:=by omega
    omega
 refine⟨ac,ac,by have:=I.e;rw[gR];omega,?_⟩;rw[Int.sub_add_cancel];refine C.geq ac ?_;rw[I.qD];omega
theorem iA.exit (C:ju t2 t1 t0 v1 v0 T V p)(I:iA t2 t1 v1 T V q r)(h:q*v0<=r*18446744073709551616+t0):(q-1)*V<=T:=by
 have w1:=C.w1;have q0:=I.q0;have r0:=I.r0;have w0:=C.w0;have hp:=C.hp;have a1:q*(v1*18446744073709551616+v0)<=(t2*18446744073709551616+t1)*18446744073709551616+t0:=by rw[I.qD];omega
 have a2:=be a1 (show 0<=p by omega);have a3:=aY (bA C.rY) q0.1;have a4:q*((v1*18446744073709551616+v0+1)*p)=q*(v1*18446744073709551616+v0)*p+q*p:=by grind
 have a5:=be (show q<=18446744073709551616 by omega) (show 0<=p by omega);have a6:=be (show 18446744073709551616<=v1*18446744073709551616+v0 by omega) (show 0<=p by omega);have a7:=C.qp;have a8:=C.lo;rw[gR,dL];omega
theorem iA.mT (C:ju t2 t1 t0 v1 v0 T V p)(I:iA t2 t1 v1 T V q r)(h:18446744073709551616<=r):(q-1)*V<=T:=by
 have q0:=I.q0;have w0:=C.w0;have h0:=C.h0;refine I.exit C ?_;have h3:=gu (a:=q) (b:=v0) (c:=18446744073709551615) (d:=18446744073709551615) ac ac w0.1 ac;omega
theorem km {b:Int}{l:List Int}{n:Nat}(h:l.length=n+1):WV b l=WV b (l.take n)+b^n*l[n]! := by
 have:=fI (b:=b) (l:=l) (i:=n) ac;rwa [aR ac]at this
theorem ju.of {X V:List Int}{n:Nat}(hX:X.length=n+3)(hV:V.length=n+2)(oX:okW 18446744073709551616 X)(oV:okW 18446744073709551616 V)(hv:9223372036854775808<=V[n+1]!)(hT:WV 18446744073709551616 X<18446744073709551616*WV 18446744073709551616 V) :
 ju X[n+2]! X[n+1]! X[n]! V[n+1]! V[n]! (WV 18446744073709551616 X) (WV 18446744073709551616 V) (18446744073709551616^n):=by
 have x2:=cG oX (i:=n+2) ac;have x1:=cG oX (i:=n+1) ac;have x0:=cG oX (i:=n) ac;have v1:=cG oV (i:=n+1) ac;have v0:=cG oV (i:=n) ac;have eX:WV 18446744073709551616 X=WV 18446744073709551616 (X.take n)+((X[n+2]! * 18446744073709551616+X[n+1]!)*18446744073709551616+X[n]!)*18446744073709551616^n:=by
  rw[km (n:=n+2) ac,fI ac,fI ac,b7,b7];grind
 have eV:WV 18446744073709551616 V=WV 18446744073709551616 (V.take n)+(V[n+1]! * 18446744073709551616+V[n]!)*18446744073709551616^n:=by
  rw[km (n:=n+1) ac,fI ac,b7];grind
 have lX:=dM (b:=18446744073709551616) ak (ee oX n);have lV:=dM (b:=18446744073709551616) ak (ee oV n);have pX:=cK (b:=18446744073709551616) ak (ee oX n);have pV:=cK (b:=18446744073709551616) ak (ee oV n);rw[bI,cP ac]at lX lV;have hp:(0:Int)<18446744073709551616^n:=b6 ak;refine⟨x2.1,x1,x0,⟨hv,v1.2⟩,v0,ac,ac,?_,ac,?_,hT⟩
 . rw[c0 _ 1,dL];omega
 . rw[c0 _ 1,dL];omega
end Go.Ab.bl

/-
  Own work: words of integers: a digit of a quotient (Knuth's step): the loops.
-/
namespace Go.Ab.Ch5.N
open Go.Ab.bl
variable {M:az} {cu cv:Option Nat}
def dE (hp:ae)(b:Nat)(e:TypeId)(P S X:List Int):ae:=hp.put b (some (.cells (aq (P++X++S)) e))
theorem IJ {hp:ae}{b:Nat}{e:TypeId}{P S X:List Int}:(dE hp b e P S X).length=hp.length:=nT
theorem Cr {P X S:List Int}{i:Nat}(hi:i<X.length):(P++X++S)[P.length+i]! = X[i]! := by
 simp only[bN];rw[cZ,List.getElem?_append_right ac,show P.length+i-P.length=i by omega,ip hi]
theorem IK {P X S:List Int}{i:Nat}{v:Int}(hi:i<X.length):(P++X++S).set (P.length+i) v=P++X.set i v++S:=by
 rw[cZ,List.set_append_right _ _ ac,show P.length+i-P.length=i by omega,List.set_append_left _ _ hi,cZ]
section
variable {t bu bv m:Nat} {x y:aS} {l:List bj} {pe:List AV} {lo:List (Nat×AV)} {hp:ae} {df wr:List Nat} {P S X V Y:List Int} {e e':TypeId} {v:Int} {Q:aw->Prop}
theorem afM {i:Nat}(hx:(St.mk pe lo (dE hp bu e P S X) df).ah x=some (.ptr bu m))(hl:bu<hp.length)(hi:i<X.length)(hm:m=P.length+i)
 (h:WO M l ⟨⟨pe,(t,.uV X[i]!)::lo,dE hp bu e P S X,df⟩,wr⟩ Q):WO M (⟨.l t,.load 1 false x,none⟩::l) ⟨⟨pe,lo,dE hp bu e P S X,df⟩,wr⟩ Q:=by
 subst hm;refine afO (L:=P++X++S) (e:=e) hx (by unfold dE;exact di hl) (by simp;omega) ?_;rw[Cr hi];exact h
theorem vP {Y:Option cd}(hne:bu≠bv):(hp.put bu Y).at bv=hp.at bv:=by
 unfold ae.at ae.put;rw[i7 hne]
theorem afQ {i:Nat}(hx:(St.mk pe lo (dE hp bu e P S X) df).ah x=some (.ptr bv m))(hb:hp.at bv=some (.cells (aq (V++Y)) e'))(hne:bu≠bv)(hi:i<V.length)(hm:m=i)
 (h:WO M l ⟨⟨pe,(t,.uV V[i]!)::lo,dE hp bu e P S X,df⟩,wr⟩ Q):WO M (⟨.l t,.load 1 false x,none⟩::l) ⟨⟨pe,lo,dE hp bu e P S X,df⟩,wr⟩ Q:=by
 subst hm;refine afO (L:=V++Y) (e:=e') hx (by unfold dE;rw[vP hne];exact hb) (by rw[List.length_append];omega) ?_;have:(V++Y)[m]! = V[m]! := by
  simp only[bN];rw[ip hi]
 rw[this];exact h
theorem afY {i:Nat}(hx:(St.mk pe lo (dE hp bu e P S X) df).ah x=some (.ptr bu m))(hy:(St.mk pe lo (dE hp bu e P S X) df).ah y=some (.uV v))(hl:bu<hp.length)(hi:i<X.length)(hm:m=P.length+i)
 (h:WO M l ⟨⟨pe,lo,dE hp bu e P S (X.set i v),df⟩,bu::wr⟩ Q):WO M (⟨.no,.store 1 x y,none⟩::l) ⟨⟨pe,lo,dE hp bu e P S X,df⟩,wr⟩ Q:=by
 subst hm;refine afH (L:=P++X++S) (e:=e) hx hy (by unfold dE;exact di hl) (by simp;omega) ?_;rw[IK hi];have:ae.put (dE hp bu e P S X) bu (some (.cells (aq (P++X.set i v++S)) e))=dE hp bu e P S (X.set i v):=by unfold dE;exact Hu
 rw[this];exact h
end
variable {bu bv k:Nat} {e e':TypeId} {hp:ae} {P S X V Y:List Int}
theorem IL (C:mS M)(hl:bu<hp.length)(hne:bu≠bv)(hb:hp.at bv=some (.cells (aq (V++Y)) e'))(lk:k<10000000)(hX:X.length=k+3)(hV:V.length=k+2)
 {t2 t1 T D p:Int} (K:ju t2 t1 X[k]! V[k+1]! V[k]! T D p) {Q:Ex->aw->Prop} (a2 a9 aA aB aC aD aE aF aG aH aI aJ aK:AV) (wr:List Nat)
 (hQ:∀(q rh ov:Int) a7 a8 lo,(0<=q/\q<18446744073709551616)->T<(q+1)*D->(q-1)*D<=T ->
   Q (.exit 0) ⟨⟨[.sl bu P.length (k+3) 1 cu,.sl bv 0 (k+2) 1 cv,a2,.iV ((k+2:Nat):Int),.uV q,.uV rh,.uV ov,a7,a8,a9,aA,aB,aC,aD,aE,aF,aG,aH,aI,aJ,aK],lo,dE hp bu e P S X,[]⟩,wr⟩)
 (q rh ov:Int) (a7 a8:AV) (lo:List (Nat×AV)) (I:iA t2 t1 V[k+1]! T D q (rh+18446744073709551616*ov)) (hrh:0<=rh/\rh<18446744073709551616) (hov:0<=ov/\ov<=1) :
 W M (.loop Cj) ⟨⟨[.sl bu P.length (k+3) 1 cu,.sl bv 0 (k+2) 1 cv,a2,.iV ((k+2:Nat):Int),.uV q,.uV rh,.uV ov,a7,a8,a9,aA,aB,aC,aD,aE,aF,aG,aH,aI,aJ,aK],lo,dE hp bu e P S X,[]⟩,wr⟩ Q:=by
 refine W.gP (fun m s=>∃q rh ov a7 a8 lo,s=⟨⟨[.sl bu P.length (k+3) 1 cu,.sl bv 0 (k+2) 1 cv,a2,.iV ((k+2:Nat):Int),.uV q,.uV rh,.uV ov,a7,a8,a9,aA,aB,aC,aD,aE,aF,aG,aH,aI,aJ,aK],lo,dE hp bu e P S X,[]⟩,wr⟩ /\
  m=q.toNat/\iA t2 t1 V[k+1]! T D q (rh+18446744073709551616*ov)/\(0<=rh/\rh<18446744073709551616)/\(0<=ov/\ov<=1)) (fun m s ⟨q,rh,ov,a7,a8,lo,hs,hm,I,hrh,hov⟩=>?_) (m:=q.toNat) ⟨q,rh,ov,a7,a8,lo,rfl,rfl,I,hrh,hov⟩
 subst hs;subst hm;have q0:=I.q0;have w0:=K.w0;have w1:=K.w1;have t0:=K.h0;unfold Cj;by_cases ho:ov=0
 . subst ho;rw[ce,c8]at I;have q259:=fun h=>C.oz q V[k]! h q0 w0
   obtain⟨m,hm⟩:∃m,m=q*V[k]! := ⟨_,rfl⟩;have hmb:=vK q0 w0;rw[←hm]at q259 hmb;by_cases ht:m<=rh*18446744073709551616+X[k]!
   . have hfin:=I.exit K (by rw[←hm];exact ht);repeat' first|(apply afM (i:=k);rfl;exact hl;omega;omega)|(apply afQ (i:=k);rfl;exact hb;exact hne;omega;omega)|apply aaK|apply aa|apply aaI|apply aaC|apply acu|apply acV|apply acn|apply bh|(apply cB;rfl)|apply bF|(apply ack;rfl)|(apply adx;rfl)|(apply aew;rfl)|(apply afc;rfl)|(apply afs;rfl)|(apply acE;rfl;rfl)|(apply afK;rfl;rfl)|(apply adw;rfl;rfl)|(apply acJ;rfl;rfl)|(apply adt;rfl;rfl)|(apply aeR;rfl;rfl;omega)|(apply acq;rfl;rfl;first|exact q259 _)|(apply afn;rfl;rfl;omega)|(apply abx;rfl;rfl)|(apply abO;rfl;rfl)|(intro _;omega)|intro _
     all_goals try omega
     all_goals exact hQ _ _ _ _ _ _ q0 I.ge hfin
   . have I2:=I.dec K (by rw[←hm];omega);have q310:=fun h=>C.mQ rh V[k+1]! 0 h ac ac ak ak
     have e1:(rh+V[k+1]! + 0)%18446744073709551616+18446744073709551616*((rh+V[k+1]! + 0)/18446744073709551616)=rh+V[k+1]! := by omega
     have i0:=I2.q0;repeat' first|(apply afM (i:=k);rfl;exact hl;omega;omega)|(apply afQ (i:=k);rfl;exact hb;exact hne;omega;omega)|(apply afQ (i:=k+1);rfl;exact hb;exact hne;omega;omega)|(apply afI;rfl;rfl;omega)|apply aaK|apply aa|apply aaI|apply aaC|apply acu|apply acn|apply bc|(apply ack;rfl)|(apply acj;rfl)|(apply adx;rfl)|(apply aew;rfl)|(apply aeU;rfl)|(apply acE;rfl;rfl)|(apply afK;rfl;rfl)|(apply adw;rfl;rfl)|(apply acJ;rfl;rfl)|(apply adt;rfl;rfl)|(apply aeR;rfl;rfl;omega)|(apply acq;rfl;rfl;first|exact q259 _|exact q310 _)|(apply afn;rfl;rfl;omega)|(apply abx;rfl;rfl)|(apply abO;rfl;rfl)|(intro _;omega)|intro _
     all_goals try omega
     all_goals exact ek ⟨(q-1).toNat,ac,q-1,_,_,_,_,_,rfl,rfl,by rw[e1];exact I2,ac,ac⟩
 . have h1:ov=1:=by omega
   subst h1;have hfin:=I.mT K ac;repeat' first|apply aaK|apply aa|apply aaI|apply aaC|apply acV|apply bh|apply bF|(apply acj;rfl)|(apply adw;rfl;rfl)|(apply abx;rfl;rfl)|(intro _;omega)|intro _
   all_goals try omega
   all_goals exact hQ _ _ _ _ _ _ q0 I.ge hfin
theorem Un (C:mS M)(hl:bu<hp.length)(hne:bu≠bv)(hb:hp.at bv=some (.cells (aq (V++Y)) e'))(lk:k<10000000)(hX:X.length=k+3)(oX:okW wB X)(hV:V.length=k+2)(oV:okW wB V)
 (q:Int) (q0:0<=q/\q<18446744073709551616) {Q:Ex->aw->Prop} (a2 a5 a6 a7 a8 aB aC aD aE aF aG aJ aK:AV) (lo:List (Nat×AV))
 (hQ:∀L (bo ca:Int) aB aC aD aE lo wr,L.length=k+3->okW wB L->L[k+2]! = X[k+2]! -> (0<=bo/\bo<=1)->(0<=ca/\ca<18446744073709551616)->(∀z∈wr,z=bu)->WV wB L=WV wB X-q*WV wB V+wB^(k+2)*(ca+bo) ->
   Q (.exit 2) ⟨⟨[.sl bu P.length (k+3) 1 cu,.sl bv 0 (k+2) 1 cv,a2,.iV ((k+2:Nat):Int),.uV q,a5,a6,a7,a8,.uV bo,.uV ca,aB,aC,aD,aE,aF,aG,.iV ((k+2:Nat):Int),.iV ((k+2:Nat):Int),aJ,aK],lo,dE hp bu e P S L,[]⟩,wr⟩) :
 W M (.loop rR) ⟨⟨[.sl bu P.length (k+3) 1 cu,.sl bv 0 (k+2) 1 cv,a2,.iV ((k+2:Nat):Int),.uV q,a5,a6,a7,a8,.uV 0,.uV 0,aB,aC,aD,aE,aF,aG,.iV ((k+2:Nat):Int),.iV 0,aJ,aK],lo,dE hp bu e P S X,[]⟩,[]⟩ Q:=by
 refine W.jq (k+2) (fun i s=>∃L bo ca aB aC aD aE lo wr,s=⟨⟨[.sl bu P.length (k+3) 1 cu,.sl bv 0 (k+2) 1 cv,a2,.iV ((k+2:Nat):Int),.uV q,a5,a6,a7,a8,.uV bo,.uV ca,aB,aC,aD,aE,aF,aG,.iV ((k+2:Nat):Int),.iV i,aJ,aK],lo,dE hp bu e P S L,[]⟩,wr⟩ /\
  L.length=k+3/\okW wB L/\L[k+2]! = X[k+2]! /\ (0<=bo/\bo<=1)/\(0<=ca/\ca<18446744073709551616)/\(∀z∈wr,z=bu)/\WV wB L=WV wB X-q*WV wB (V.take i)+wB^i*(ca+bo)) (fun i s hi ⟨L,bo,ca,aB,aC,aD,aE,lo,wr,hs,hL,oL,ht,hbo,hca,hw,hv⟩=>?_) (fun s ⟨L,bo,ca,aB,aC,aD,aE,lo,wr,hs,hL,oL,ht,hbo,hca,hw,hv⟩=>?_) (ew _)
  ⟨_,_,_,_,_,_,_,_,_,rfl,hX,oX,rfl,⟨ak,ak⟩,⟨ak,ak⟩,am,by simp[WV]⟩
 . subst hs;have gy:=cG oV (i:=i) ac;obtain⟨y,hy⟩:∃y,y=V[i]! := ⟨_,rfl⟩;rw[←hy]at gy;have gy:0<=y/\y<18446744073709551616:=gy;have gL:=cG oL (i:=i) ac;obtain⟨u,hu⟩:∃u,u=L[i]! := ⟨_,rfl⟩;rw[←hu]at gL;have gL:0<=u/\u<18446744073709551616:=gL;have q259:=fun h=>C.oz q y h q0 gy
   have hm:=vK q0 gy;obtain⟨m,hmm⟩:∃m,m=q*y:=⟨_,rfl⟩;rw[←hmm]at q259 hm;have q310:=fun h=>C.mQ (m%18446744073709551616) ca 0 h ac hca.1 ak ak
   obtain⟨S1,hS1⟩:∃S1,S1=(m%18446744073709551616+ca+0)%18446744073709551616:=⟨_,rfl⟩;obtain⟨S2,hS2⟩:∃S2,S2=(m%18446744073709551616+ca+0)/18446744073709551616:=⟨_,rfl⟩;rw[←hS1,←hS2]at q310;obtain⟨D,hD⟩:∃D:Int,D=if u<S1+bo then 1 else 0:=⟨_,rfl⟩
   have q330:=fun h=>C.vJ u S1 bo h gL.1 gL.2 ac ac hbo.1 hbo.2
   obtain⟨d,hd⟩:∃d,d=(u-S1-bo)%18446744073709551616:=⟨_,rfl⟩;rw[←hD,←hd]at q330;have hD2:0<=D/\D<=1/\u-S1-bo=d-18446744073709551616*D/\0<=d/\d<18446744073709551616:=by
    rw[hD];split <;> omega
   have hC2:(0<=m/18446744073709551616+S2/\m/18446744073709551616+S2<18446744073709551616)/\m+ca=S1+18446744073709551616*(m/18446744073709551616+S2):=by omega
   obtain⟨c2,hc2⟩:∃c2,c2=m/18446744073709551616+S2:=⟨_,rfl⟩;have next:∀aB aC aD aE lo,LI (fun s=>∃L bo ca aB aC aD aE lo wr,s=⟨⟨[.sl bu P.length (k+3) 1 cu,.sl bv 0 (k+2) 1 cv,a2,.iV ((k+2:Nat):Int),.uV q,a5,a6,a7,a8,.uV bo,.uV ca,aB,aC,aD,aE,aF,aG,.iV ((k+2:Nat):Int),.iV ((i+1:Nat):Int),aJ,aK],lo,dE hp bu e P S L,[]⟩,wr⟩ /\
    L.length=k+3/\okW wB L/\L[k+2]! = X[k+2]! /\ (0<=bo/\bo<=1)/\(0<=ca/\ca<18446744073709551616)/\(∀z∈wr,z=bu)/\WV wB L=WV wB X-q*WV wB (V.take (i+1))+wB^(i+1)*(ca+bo)) Q .normal ⟨⟨[.sl bu P.length (k+3) 1 cu,.sl bv 0 (k+2) 1 cv,a2,.iV ((k+2:Nat):Int),.uV q,a5,a6,a7,a8,.uV D,.uV (m/18446744073709551616+S2),aB,aC,aD,aE,aF,aG,.iV ((k+2:Nat):Int),.iV ((i:Int)+1),aJ,aK],lo,dE hp bu e P S (L.set i d),[]⟩,bu::wr⟩:=fun aB aC aD aE lo=>
    ek ⟨_,_,_,aB,aC,aD,aE,lo,_,rfl,by rw[aL];exact hL,gD oL hD2.2.2.2,by rw[ic ac];exact ht,⟨hD2.1,hD2.2.1⟩,hC2.1,by simpa using hw,by
     rw[gE ac,←hu,fI ac,←hy,hv,b7];have e1:d-u=18446744073709551616*D+18446744073709551616*(m/18446744073709551616+S2)-q*y-ca-bo:=by rw[←hmm];omega
     rw[e1,←hc2];show _+wB^i*(18446744073709551616*D+18446744073709551616*c2-q*y-ca-bo)=_-_+wB^i*18446744073709551616*(c2+D);grind⟩
   rw[hy]at q259;rw[hu]at q330;unfold rR;repeat' first|(apply afM (i:=i);rfl;exact hl;omega;omega)|(apply afQ (i:=i);rfl;exact hb;exact hne;omega;omega)|(apply afY (i:=i);rfl;rfl;exact hl;omega;omega)|(apply afF (a:=m/18446744073709551616);rfl;rfl;omega)|apply aaK|apply aa|apply aaI|apply aaC|apply acu|apply acn|apply bc|(apply ack;rfl)|(apply acE;rfl;rfl)|(apply adz;rfl;rfl;omega)|(apply acq;rfl;rfl;first|exact q259 _|exact q310 _|exact q330 _)|(apply afn;rfl;rfl;omega)|(apply abx;rfl;rfl)|(apply abO;rfl;rfl)|(intro _;omega)|intro _
   all_goals try omega
   all_goals exact next _ _ _ _ _
 . subst hs;rw[aR ac]at hv;unfold rR;repeat' first|apply aaK|apply aa|apply aaI|apply aaC|apply acV|apply bh|apply bF|(apply acj;rfl)|(apply acE;rfl;rfl)|(intro _;omega)|intro _
   all_goals try omega
   exact hQ L bo ca _ _ _ _ _ _ hL oL ht hbo hca hw hv
theorem Uo (C:mS M)(hl:bu<hp.length)(hne:bu≠bv)(hb:hp.at bv=some (.cells (aq (V++Y)) e'))(lk:k<10000000)(hX:X.length=k+3)(oX:okW wB X)(hV:V.length=k+2)(oV:okW wB V)
 {Q:Ex->aw->Prop} (a2 a4 a5 a6 a7 a8 a9 aA aB aC aD aE aG aH aI:AV) (lo:List (Nat×AV)) (wr:List Nat) (hwr:∀z∈wr,z=bu)
 (hQ:∀L (ca:Int) aG lo wr,L.length=k+3->okW wB L->L[k+2]! = X[k+2]! -> (0<=ca/\ca<=1)->(∀z∈wr,z=bu)->WV wB L+wB^(k+2)*ca=WV wB X+WV wB V ->
   Q (.exit 4) ⟨⟨[.sl bu P.length (k+3) 1 cu,.sl bv 0 (k+2) 1 cv,a2,.iV ((k+2:Nat):Int),a4,a5,a6,a7,a8,a9,aA,aB,aC,aD,aE,.uV ca,aG,aH,aI,.iV ((k+2:Nat):Int),.iV ((k+2:Nat):Int)],lo,dE hp bu e P S L,[]⟩,wr⟩) :
 W M (.loop rS) ⟨⟨[.sl bu P.length (k+3) 1 cu,.sl bv 0 (k+2) 1 cv,a2,.iV ((k+2:Nat):Int),a4,a5,a6,a7,a8,a9,aA,aB,aC,aD,aE,.uV 0,aG,aH,aI,.iV ((k+2:Nat):Int),.iV 0],lo,dE hp bu e P S X,[]⟩,wr⟩ Q:=by
 refine W.jq (k+2) (fun i s=>∃L ca aG lo wr,s=⟨⟨[.sl bu P.length (k+3) 1 cu,.sl bv 0 (k+2) 1 cv,a2,.iV ((k+2:Nat):Int),a4,a5,a6,a7,a8,a9,aA,aB,aC,aD,aE,.uV ca,aG,aH,aI,.iV ((k+2:Nat):Int),.iV i],lo,dE hp bu e P S L,[]⟩,wr⟩ /\
  L.length=k+3/\okW wB L/\L[k+2]! = X[k+2]! /\ (0<=ca/\ca<=1)/\(∀z∈wr,z=bu)/\WV wB L+wB^i*ca=WV wB X+WV wB (V.take i)) (fun i s hi ⟨L,ca,aG,lo,wr,hs,hL,oL,ht,hca,hw,hv⟩=>?_) (fun s ⟨L,ca,aG,lo,wr,hs,hL,oL,ht,hca,hw,hv⟩=>?_) (ew _)
  ⟨_,_,_,_,_,rfl,hX,oX,rfl,⟨ak,ak⟩,hwr,by simp[WV]⟩
 . subst hs;have gy:=cG oV (i:=i) ac;obtain⟨y,hy⟩:∃y,y=V[i]! := ⟨_,rfl⟩;rw[←hy]at gy;have gy:0<=y/\y<18446744073709551616:=gy;have gL:=cG oL (i:=i) ac;obtain⟨u,hu⟩:∃u,u=L[i]! := ⟨_,rfl⟩;rw[←hu]at gL;have gL:0<=u/\u<18446744073709551616:=gL;have q310:=fun h=>C.mQ u y ca h gL.1 gy.1 hca.1 hca.2
   obtain⟨d,hd⟩:∃d,d=(u+y+ca)%18446744073709551616:=⟨_,rfl⟩;obtain⟨D,hD⟩:∃D,D=(u+y+ca)/18446744073709551616:=⟨_,rfl⟩;rw[←hD,←hd]at q310;have hD2:(0<=D/\D<=1)/\u+y+ca=d+18446744073709551616*D/\0<=d/\d<18446744073709551616:=by omega
   have next:∀aG lo,LI (fun s=>∃L ca aG lo wr,s=⟨⟨[.sl bu P.length (k+3) 1 cu,.sl bv 0 (k+2) 1 cv,a2,.iV ((k+2:Nat):Int),a4,a5,a6,a7,a8,a9,aA,aB,aC,aD,aE,.uV ca,aG,aH,aI,.iV ((k+2:Nat):Int),.iV ((i+1:Nat):Int)],lo,dE hp bu e P S L,[]⟩,wr⟩ /\
    L.length=k+3/\okW wB L/\L[k+2]! = X[k+2]! /\ (0<=ca/\ca<=1)/\(∀z∈wr,z=bu)/\WV wB L+wB^(i+1)*ca=WV wB X+WV wB (V.take (i+1))) Q .normal ⟨⟨[.sl bu P.length (k+3) 1 cu,.sl bv 0 (k+2) 1 cv,a2,.iV ((k+2:Nat):Int),a4,a5,a6,a7,a8,a9,aA,aB,aC,aD,aE,.uV D,aG,aH,aI,.iV ((k+2:Nat):Int),.iV ((i:Int)+1)],lo,dE hp bu e P S (L.set i d),[]⟩,bu::wr⟩:=fun aG lo=>
    ek ⟨_,_,aG,lo,_,rfl,by rw[aL];exact hL,gD oL hD2.2.2,by rw[ic ac];exact ht,hD2.1,by simpa using hw,by
     rw[gE ac,←hu,fI ac,←hy,b7];have e1:d-u=y+ca-18446744073709551616*D:=by omega
     rw[e1];show WV wB L+wB^i*(y+ca-18446744073709551616*D)+wB^i*18446744073709551616*D=_;grind⟩
   rw[hy,hu]at q310;unfold rS;repeat' first|(apply afM (i:=i);rfl;exact hl;omega;omega)|(apply afQ (i:=i);rfl;exact hb;exact hne;omega;omega)|(apply afY (i:=i);rfl;rfl;exact hl;omega;omega)|(apply adA;rfl;rfl;(first|(simp only[nca];rfl)|rfl);first|exact q310 _)|apply aaK|apply aa|apply aaI|apply aaC|apply acu|apply acn|apply bc|apply adJ|apply adY|(apply aez;rfl)|(apply aeu;rfl;rfl;(first|(simp only[nca];rfl)|rfl))|(apply aeV;rfl;(first|(simp only[nca];rfl)|rfl);(first|(simp only[nca];rfl)|rfl))|(apply ack;rfl)|(apply acE;rfl;rfl)|(apply adz;rfl;rfl;omega)|(apply afn;rfl;rfl;omega)|(apply abx;rfl;rfl)|(apply abO;rfl;rfl)|(intro _;omega)|intro _
   all_goals try omega
   all_goals exact next _ _
 . subst hs;rw[aR ac]at hv;unfold rS;repeat' first|apply aaK|apply aa|apply aaI|apply aaC|apply acV|apply bh|apply bF|(apply acj;rfl)|(apply acE;rfl;rfl)|(intro _;omega)|intro _
   all_goals try omega
   exact hQ L ca _ _ _ hL oL ht hca hw hv
structure Cs (M:az):Prop extends mS M where
 Ct:∀(hi lo y:Int) h,(0<y/\y<18446744073709551616)->(0<=hi/\hi<y)->(0<=lo/\lo<18446744073709551616)->M.ext 287 [.uV hi,.uV lo,.uV y] h=some ⟨.ay [.uV ((hi*18446744073709551616+lo)/y),.uV ((hi*18446744073709551616+lo)%y)],h,[]⟩
def t291:ao:=
 zR [⟨(.p 9),.mv (kU 0),none⟩,
          ⟨(.p 10),.mv (kU 0),none⟩]
        (
         .seq (zR [⟨(.p 17),.mv (.p 3),none⟩,
            zi 18 0]
          (
           .block 2
           (.loop rR)))
         (
          zR [zm 141 0,
            zm 142 3,
            zm 143 0,
            zm 144 3,
            za 145 1 143 144,
            zd 146 1 145,
            zm 147 10,
            zm 148 9,
            ⟨(.l 149),.call (kF 330) [(.l 146),(.l 147),(.l 148)],none⟩,
            zn 140 149,
            ze 150 0 140,
            ze 151 1 140,
            za 152 1 141 142,
            zS 1 152 150,
            zw 9 151]
          (
           .seq (zR [zm 153 9,
              ⟨(.l 154),.bin .eql (.l 153) (kU 0),none⟩]
            (
             .cond (.l 154)
             (
              zR [zm 155 4,
                zw 2 155]
              (.ret))
             (.skip)))
           (
            zR [⟨(.p 15),.mv (kU 0),none⟩]
            (
             .seq (zR [⟨(.p 19),.mv (.p 3),none⟩,
                zi 20 0]
              (
               .block 4
               (.loop rS)))
             (
              zR [zm 177 0,
                zm 178 3,
                za 179 1 177 178,
                zd 180 1 179,
                zm 181 15,
                zb 182 .add 180 181,
                za 183 1 177 178,
                zS 1 183 182]
              (
               zR [zm 184 4,
                 ⟨(.l 185),.bin .sub (.l 184) (kU 1),none⟩,
                 zw 2 185]
               (.ret))))))))
def qq (X V:List Int)(q:Int)(R:List Int):Prop:=(0<=q/\q<18446744073709551616)/\R.length=X.length/\okW wB R/\WV wB R=WV wB X-q*WV wB V/\WV wB R<WV wB V
theorem Up {X V L:List Int}{q ca bo d b:Int}{n:Nat}(hL:L.length=n+1)(oL:okW wB L)(hv:WV wB L=WV wB X-q*WV wB V+wB^n*(ca+bo))(hd:L[n]! - ca-bo=d-18446744073709551616*b)(hd2:0<=d/\d<18446744073709551616) :
 okW wB (L.set n d)/\WV wB (L.set n d)=WV wB X-q*WV wB V+wB^(n+1)*b:=by
 refine⟨gD oL hd2,?_⟩;rw[gE ac,hv,b7];have e:d-L[n]! = 18446744073709551616*b-ca-bo:=by omega
 rw[e];show _+wB^n*(18446744073709551616*b-ca-bo)=_-_+wB^n*18446744073709551616*b;grind
theorem Uq {X V R:List Int}{q:Int}(hR:R.length=X.length)(oR:okW wB R)(hq:0<=q/\q<18446744073709551616)(hv:WV wB R=WV wB X-q*WV wB V)(hge:WV wB X<(q+1)*WV wB V):qq X V q R:=by
 refine⟨hq,hR,oR,hv,?_⟩;rw[c0,dL]at hge;omega
theorem Ur {X V R L:List Int}{q ca d:Int}{n:Nat}(oV:okW wB V)(hV:V.length=n)(hX:X.length=n+1)(oR:okW wB R)(hR:R.length=n+1)(hv:WV wB R=WV wB X-q*WV wB V+wB^(n+1))(h0:0<=WV wB X)(hle:(q-1)*WV wB V<=WV wB X)(hq:0<=q/\q<18446744073709551616)
 (hL:L.length=n+1) (oL:okW wB L) (ht:L[n]! = d) (hl:WV wB L+wB^n*ca=WV wB R+WV wB V) (hca:0<=ca/\ca<=1) :
 1<=q/\qq X V (q-1) (L.set n ((d+ca)%18446744073709551616)):=by
 have lR:=dM (b:=wB) ak oR;rw[hR]at lR;have lV:=dM (b:=wB) ak oV;rw[hV]at lV;have hp:wB^(n+1)=wB^n*18446744073709551616:=b7 _ _;have hp0:0<wB^n:=b6 ak;have q1:1<=q:=by
  rcases cT 0 q with h|h
  . omega
  . obtain rfl:q=0:=by omega
    rw[Int.zero_mul]at hv;omega
 have gd:=cG oL (i:=n) ac;rw[ht]at gd;have gd:0<=d/\d<18446744073709551616:=gd;obtain⟨f,hf⟩:∃f,f=(d+ca)/18446744073709551616:=⟨_,rfl⟩;have hf2:(d+ca)%18446744073709551616-d=ca-18446744073709551616*f/\0<=f/\f<=1:=by omega
 have oN:okW wB (L.set n ((d+ca)%18446744073709551616)):=gD oL ⟨ac,by show _<(18446744073709551616:Int);omega⟩;have eN:WV wB (L.set n ((d+ca)%18446744073709551616))=WV wB X-(q-1)*WV wB V+wB^(n+1)*(1-f):=by
  rw[gE ac,ht,hf2.1,hp];rw[hp]at hv;have e1:wB^n*(ca-18446744073709551616*f)=wB^n*ca-wB^n*18446744073709551616*f:=by rw[f8,bP]
  have e2:wB^n*18446744073709551616*(1-f)=wB^n*18446744073709551616-wB^n*18446744073709551616*f:=by rw[f8,gF]
  rw[e1,e2,gR,dL];generalize wB^n*ca=z1 at *
  generalize wB^n*18446744073709551616*f=z2 at *
  generalize wB^n*18446744073709551616=z3 at *
  omega
 have lN:=dM (b:=wB) ak oN;rw[aL,hL]at lN;have f1:f=1:=by
  rcases cT 0 f with h|h
  . omega
  . obtain rfl:f=0:=by omega
    rw[fW,gF]at eN;omega
 subst f1;rw[Int.sub_self,ce,c8]at eN;refine⟨q1,ac,by rw[aL];omega,oN,eN,?_⟩;rw[eN,gR,dL];omega
theorem IM (C:mS M)(hl:bu<hp.length)(hne:bu≠bv)(hb:hp.at bv=some (.cells (aq (V++Y)) e'))(lk:k<10000000)(hX:X.length=k+3)(oX:okW wB X)(hV:V.length=k+2)(oV:okW wB V)
 (q:Int) (q0:0<=q/\q<18446744073709551616) (hge:WV wB X<(q+1)*WV wB V) (hle:(q-1)*WV wB V<=WV wB X) (a2 a5 a6 a7 a8 a9 aA aB aC aD aE aF aG aH aI aJ aK:AV) (lo:List (Nat×AV)) :
 W M t291 ⟨⟨[.sl bu P.length (k+3) 1 cu,.sl bv 0 (k+2) 1 cv,a2,.iV ((k+2:Nat):Int),.uV q,a5,a6,a7,a8,a9,aA,aB,aC,aD,aE,aF,aG,aH,aI,aJ,aK],lo,dE hp bu e P S X,[]⟩,[]⟩
  (fun x s=>(x = .normal\/x = .ret)/\s.s.cF=[]/\∃vs,dU s.s [.var (.p 2)]=some vs/\∃q R,qq X V q R/\s.s.hp=dE hp bu e P S R/\(∀z∈s.wr,z=bu)/\aT vs = .uV q):=by
 have hX0:=cK (b:=wB) ak oX;unfold t291;repeat' first|apply aaK|apply aa|apply aaI|apply aaC|apply acu|(apply abO;rfl;rfl)
 refine Un C hl hne hb lk hX oX hV oV q q0 _ _ _ _ _ _ _ _ _ _ _ _ _ _ (fun L bo ca aB aC aD aE lo wr hL oL ht hbo hca hw hv=>?_);have gt:=cG oL (i:=k+2) ac;obtain⟨t,htt⟩:∃t,t=L[k+2]! := ⟨_,rfl⟩;rw[←htt]at gt;have gt:0<=t/\t<18446744073709551616:=gt;obtain⟨b,hbb⟩:∃b:Int,b=if t<ca+bo then 1 else 0:=⟨_,rfl⟩
 obtain⟨d,hd⟩:∃d,d=(t-ca-bo)%18446744073709551616:=⟨_,rfl⟩;have q330:=fun h=>C.vJ t ca bo h gt.1 gt.2 hca.1 hca.2 hbo.1 hbo.2
 rw[←hbb,←hd]at q330;have hb2:(b=0\/b=1)/\t-ca-bo=d-18446744073709551616*b/\0<=d/\d<18446744073709551616:=by
  rw[hbb];split <;> omega
 obtain⟨oR,vR⟩:=Up hL oL hv (by rw[←htt];exact hb2.2.1) hb2.2.2;obtain⟨R,hR⟩:∃R,R=L.set (k+2) d:=⟨_,rfl⟩;have lR:R.length=k+3:=by rw[hR,aL];exact hL
 have tR:R[k+2]! = d:=by rw[hR];exact vH ac
 rw[←hR]at oR vR;have hw2:∀z∈bu::wr,z=bu:=by simpa using hw
 rw[htt]at q330;rcases hb2.1 with rfl|rfl
 . rw[ce,c8]at vR;have fin:=Uq (X:=X) (V:=V) ac oR q0 vR hge;rw[hR]at fin;repeat' first|(apply afM (i:=k+2);rfl;exact hl;omega;omega)|(apply afY (i:=k+2);rfl;rfl;exact hl;omega;omega)|apply aaK|apply aa|apply aaI|apply aaC|apply abZ|apply aP|apply bk|(apply ack;rfl)|(apply adw;rfl;rfl)|(apply acq;rfl;rfl;first|exact q330 _)|(apply afn;rfl;rfl;omega)|(apply abx;rfl;rfl)|(apply abO;rfl;rfl)|(intro _;omega)|intro _
   all_goals try omega
   exact⟨.inr rfl,rfl,_,rfl,q,_,fin,rfl,hw2,rfl⟩
 . rw[gF]at vR;have back:=fun (L':List Int) (ca:Int) h1 h2 h3 h4 h5=>Ur (X:=X) (V:=V) (R:=R) (L:=L') (q:=q) (ca:=ca) (d:=d) (n:=k+2) oV hV hX oR lR vR hX0 hle q0 h1 h2 h3 h4 h5
   rw[hR]at lR oR tR back;repeat' first|(apply afM (i:=k+2);rfl;exact hl;omega;omega)|(apply afY (i:=k+2);rfl;rfl;exact hl;omega;omega)|apply aaK|apply aa|apply aaI|apply aaC|apply acu|apply acn|apply bk|(apply acj;rfl)|(apply adw;rfl;rfl)|(apply acq;rfl;rfl;first|exact q330 _)|(apply afn;rfl;rfl;omega)|(apply abx;rfl;rfl)|(apply abO;rfl;rfl)|(intro _;omega)|intro _
   all_goals try omega
   refine Uo C hl hne hb lk lR oR hV oV _ _ _ _ _ _ _ _ _ _ _ _ _ _ _ _ _ hw2 (fun L' c2 aG lo wr hL' oL' ht' hc2 hw' hv'=>?_);rw[tR]at ht';obtain⟨q1,fin⟩:=back L' c2 hL' oL' ht' hv' hc2;rw[←ht']at fin;have hw3:∀z∈bu::wr,z=bu:=by simpa using hw'
   repeat' first|(apply afM (i:=k+2);rfl;exact hl;omega;omega)|(apply afY (i:=k+2);rfl;rfl;exact hl;omega;omega)|(apply afI (a:=q);rfl;rfl;omega)|(apply agd;rfl;rfl)|apply aaK|apply aa|apply aaI|apply aaC|apply abZ|apply bk|(apply afn;rfl;rfl;omega)|(apply abx;rfl;rfl)|(apply abO;rfl;rfl)
   all_goals try omega
   exact⟨.inr rfl,rfl,_,rfl,q-1,_,fin,rfl,hw3,rfl⟩
theorem Us {n:Nat}{v:AV}{s:aw}(hh:s.s.hp.length=n):gm v n s=⟨v,s.s.hp,s.wr.filter (· < n)⟩:=by
 unfold gm;split
 . rw[aR ac]
 . rfl
theorem Ut (C:Cs M)(hl:bu<hp.length)(hne:bu≠bv)(hb:hp.at bv=some (.cells (aq (V++Y)) e'))(lk:k<10000000)(hX:X.length=k+3)(oX:okW wB X)(hV:V.length=k+2)(oV:okW wB V)(hv:9223372036854775808<=V[k+1]!)(hT:WV wB X<wB*WV wB V) :
 ∃q R,qq X V q R/\∃wr,(∀z∈wr,z=bu)/\bg M 291 [.sl bu P.length (k+3) 1 cu,.sl bv 0 (k+2) 1 cv] (dE hp bu e P S X) ⟨.uV q,dE hp bu e P S R,wr⟩:=by
 have K:=ju.of hX hV oX oV hv hT;have h1:=K.h1;have w1:=K.w1;have h2:=K.h2;have key:=uW.Hz (M:=M) (f:=291) (ars:=[.sl bu P.length (k+3) 1 cu,.sl bv 0 (k+2) 1 cv]) (h:=dE hp bu e P S X) (K:=fun hr=>∃q R,qq X V q R/\∃wr,(∀z∈wr,z=bu)/\hr=⟨.uV q,dE hp bu e P S R,wr⟩) (by rw[C.ft];exact Tx) am (by
  refine W.mono (Q:=fun x s=>(x = .normal\/x = .ret)/\s.s.cF=[]/\∃vs,dU s.s [.var (.p 2)]=some vs/\∃q R,qq X V q R/\s.s.hp=dE hp bu e P S R/\(∀z∈s.wr,z=bu)/\aT vs = .uV q) ?_ (fun x s ⟨g1,g2,vs,g3,q,R,g4,g5,g6,g7⟩=>⟨g1,s,by rw[g2];rfl,vs,g3,q,R,g4,s.wr.filter (· < (dE hp bu e P S X).length),fun z hz=>g6 z (List.mem_filter.1 hz).1,by rw[Us (by rw[g5,IJ,IJ]),g5,g7]⟩);unfold Is;simp only[enter];by_cases h:V[k+1]! <= X[k+2]!
  . have I:=iA.Ul K h;have q310:=fun h=>C.mQ X[k+1]! V[k+1]! 0 h h1.1 ac ak ak
    have e1:(X[k+1]! + V[k+1]! + 0)%18446744073709551616+18446744073709551616*((X[k+1]! + V[k+1]! + 0)/18446744073709551616)=X[k+1]! + V[k+1]! := by omega
    rw[←e1]at I;repeat' first|(apply afM (i:=k+2);rfl;exact hl;omega;omega)|(apply afM (i:=k+1);rfl;exact hl;omega;omega)|(apply afQ (i:=k+1);rfl;exact hb;exact hne;omega;omega)|(apply adA;rfl;rfl;(first|(simp only[nca];rfl)|rfl);first|exact q310 _)|apply aaK|apply aa|apply aaI|apply aaC|apply acu|(apply aeW;rfl)|apply adJ|apply adY|(apply aez;rfl)|(apply aeu;rfl;rfl;(first|(simp only[nca];rfl)|rfl))|(apply ack;rfl)|(apply aeY;rfl;rfl)|(apply aeR;rfl;rfl;omega)|(apply afn;rfl;rfl;omega)|(apply abx;rfl;rfl)|(apply abO;rfl;rfl)|(intro _;omega)|intro _
    all_goals try omega
    refine IL C.tomS hl hne hb lk hX hV K _ _ _ _ _ _ _ _ _ _ _ _ _ _ (fun q rh ov a7 a8 lo g1 g2 g3=>?_) _ _ _ _ _ _ I ac ac;repeat' first|(exact IM C.tomS hl hne hb lk hX oX hV oV q g1 g2 g3 _ _ _ _ _ _ _ _ _ _ _ _ _ _ _ _ _ _)|apply aa|apply bk
  . have I:=iA.Um K ac;have q287:=fun h=>C.Ct X[k+2]! X[k+1]! V[k+1]! h ac ac h1
    have r0:=hJ (X[k+2]! * 18446744073709551616+X[k+1]!) (show V[k+1]! ≠ 0 by omega);have r1:=f7 (X[k+2]! * 18446744073709551616+X[k+1]!) (show 0<V[k+1]! by omega);rw[←c8 ((X[k+2]! * 18446744073709551616+X[k+1]!)%V[k+1]!),←ce 18446744073709551616]at I;repeat' first|(apply afM (i:=k+2);rfl;exact hl;omega;omega)|(apply afM (i:=k+1);rfl;exact hl;omega;omega)|(apply afQ (i:=k+1);rfl;exact hb;exact hne;omega;omega)|(apply adA;rfl;rfl;(first|(simp only[nca];rfl)|rfl);first|exact q287 _)|apply aaK|apply aa|apply aaI|apply aaC|apply acu|(apply aeW;rfl)|apply adJ|apply adY|(apply aez;rfl)|(apply aeu;rfl;rfl;(first|(simp only[nca];rfl)|rfl))|(apply acj;rfl)|(apply aeY;rfl;rfl)|(apply aeR;rfl;rfl;omega)|(apply afn;rfl;rfl;omega)|(apply abx;rfl;rfl)|(apply abO;rfl;rfl)|(intro _;omega)|intro _
    all_goals try omega
    refine IL C.tomS hl hne hb lk hX hV K _ _ _ _ _ _ _ _ _ _ _ _ _ _ (fun q rh ov a7 a8 lo g1 g2 g3=>?_) _ _ _ _ _ _ I ⟨r0,ac⟩ ak;repeat' first|(exact IM C.tomS hl hne hb lk hX oX hV oV q g1 g2 g3 _ _ _ _ _ _ _ _ _ _ _ _ _ _ _ _ _ _)|apply aa|apply bk
  )
 obtain⟨r,h1,q,R,h2,wr,h3,rfl⟩:=key;exact⟨q,R,h2,wr,h3,h1⟩
theorem agF {t n b:Nat}{k k':IntKind}{x y z:aS}{l:List bj}{pe:List AV}{lo:List (Nat×AV)}{hp:ae}{df wr:List Nat}{i j:Int}{Q:aw->Prop}(i' r:Nat)(hx:(St.mk pe lo hp df).ah x=some (.sl b 0 n 1 (some n)))(hy:(St.mk pe lo hp df).ah y=some (.int k i))(hz:(St.mk pe lo hp df).ah z=some (.int k' j))
 (hi:i=i') (hj:j=i'+r) (hr:0<r) (hn:i'+r<=n)
 (h:WO M l ⟨⟨pe,(t,.sl b i' r 1 (some (n-i')))::lo,hp,df⟩,wr⟩ Q):WO M (⟨.l t,.slice .sl 1 x (some y) (some z) none,none⟩::l) ⟨⟨pe,lo,hp,df⟩,wr⟩ Q:=by
 subst hi;have ej:j=((i'+r:Nat):Int):=by omega
 subst ej;refine abx (v:=.sl b i' r 1 (some (n-i'))) ?_ rfl h;have h1:(0:Int)<=((i'+r:Nat):Int)/\((i'+r:Nat):Int)<=(n:Int):=by omega
 have h2:(0:Int)<=(i':Int)/\(i':Int)<=((i'+r:Nat):Int):=by omega
 simp only[br,hx,St.eK,hy,hz,k9,jW,cA,j2,j3,l9,if_true,Option.getD_some,if_pos h1,cQ,if_pos h2,Nat.mul_one,Nat.zero_add];rw[if_pos ac,show i'+r-i'=r by omega]
structure Cu (M:az):Prop extends Cs M where
 sc:∀ars h,M.ext 290 ars h=none
 vW:∀ars h,M.ext 291 ars h=none
variable {j:Nat} {U:List Int}
theorem Uv (C:Cu M)(hU:hp.at bu=some (.cells (aq U) e))(hne:bu≠bv)(hb:hp.at bv=some (.cells (aq (V++Y)) e'))(lk:k<10000000)(hj:j+(k+3)<=U.length)(oU:okW wB U)(hV:V.length=k+2)(oV:okW wB V)(hv:9223372036854775808<=V[k+1]!)(hup:WV wB (U.drop (j+1))<WV wB V) :
 ∃q U',(0<=q/\q<18446744073709551616)/\U'.length=U.length/\okW wB U'/\WV wB U'=WV wB U-wB^j*(q*WV wB V)/\WV wB (U'.drop j)<WV wB V/\∃wr,(∀z∈wr,z=bu)/\CT M (.fn (.func 291) [] []) [.sl bu j (k+3) 1 cu,.sl bv 0 (k+2) 1 cv] hp ⟨.uV q,hp.put bu (some (.cells (aq U') e)),wr⟩:=by
 obtain⟨P,hP⟩:∃P,P=U.take j:=⟨_,rfl⟩;obtain⟨X,hX⟩:∃X,X=(U.drop j).take (k+3):=⟨_,rfl⟩;obtain⟨S,hS⟩:∃S,S=U.drop (j+(k+3)):=⟨_,rfl⟩;have eU:U=P++X++S:=by
  rw[hP,hX,hS,cZ,←le,d8,d8]
 have lP:P.length=j:=by rw[hP,bI];omega
 have lX:X.length=k+3:=by rw[hX,bI,kn];omega
 have oX:okW wB X:=by rw[hX];exact ee (js oU _) _
 have oS:okW wB S:=by rw[hS];exact js oU _
 have oP:okW wB P:=by rw[hP];exact ee oU _
 have eD:U.drop j=X++S:=by rw[eU,←lP,cZ,li]
 have hl:bu<hp.length:=gZ hU;have gj:=cG oU (i:=j) ac;have d1:=ot (b:=wB) (l:=U) (i:=j) ac;have lt:=dM (b:=wB) ak oV;rw[hV]at lt;have hpow:(0:Int)<wB^(k+2):=b6 ak;have hS0:WV wB S=0:=by
  have h1:WV wB (U.drop (j+1))=WV wB ((U.drop (j+1)).take (k+2))+wB^(k+2)*WV wB S:=by
   have:=lM (b:=wB) (l:=U.drop (j+1)) (i:=k+2) (by rw[kn];omega);rwa [le,show j+1+(k+2)=j+(k+3) by omega,←hS]at this
  have h2:=cK (b:=wB) ak (ee (js oU (j+1)) (k+2));have h3:=cK (b:=wB) ak oS;rcases cT 0 (WV wB S) with h|h
  . have:=aY (show 1<=WV wB S by omega) (bA hpow);omega
  . omega
 have hXD:WV wB X=WV wB (U.drop j):=by rw[eD,fY,hS0,ce,c8]
 have hT:WV wB X<wB*WV wB V:=by
  rw[hXD,d1];have gj:0<=U[j]! /\ U[j]! < 18446744073709551616:=gj;show _+18446744073709551616*_<18446744073709551616*_;omega
 obtain⟨q,R,⟨hq,lR,oR,vR,tR⟩,wr,hw,hrun⟩:=Ut (cu:=cu) (cv:=cv) (P:=P) (S:=S) (e:=e) C.toCs hl hne hb lk lX oX hV oV hv hT;refine⟨q,P++R++S,hq,?_,jL (jL oP oR) oS,?_,?_,wr,hw,?_⟩
 . rw[eU];simp[lR]
 . rw[eU,cZ,fY,fY,cZ,fY,fY,vR,lR,lP,b8,b8,f8];omega
 . rw[←lP,cZ,li,fY,hS0,ce,c8];exact tR
 . rw[lP]at hrun;have e1:dE hp bu e P S X=hp:=by unfold dE;rw[←eU];exact Hv hU
   rw[e1]at hrun;exact CT.run (fi:=[]) (ca:=[]) (C.vW _ _) hrun
variable {cap c1 c2:Option Nat}
def dN (x:AV)(l:List Int):Prop:=x = .vs (aq l) l.length none\/(x = .ab/\l=[])
def kQ (v:AV)(hh:ae)(q r:List Int):Prop:=∃v1 x y,fG hh v v1/\v1.top=0/\bR v1 = .ay [x,y]/\dN x q/\dN y r
theorem lS (l:List Int):da (aq l)=aq l:=AQ (fun _=>rfl) l
theorem IN {b:Nat}{L:List Int}{e:TypeId}{hp:ae}{n:Nat}(hb:hp.at b=some (.cells (aq L) e))(hn:n<=L.length)(hh:ae)(he:(bY b (aX (L.take n)) cap).top≠0->hh=hp) :
 ∃v1,fG hh (bY b (aX (L.take n)) cap) v1/\v1.top=0/\bR v1 = .vs (aq (L.take (aX (L.take n)))) (L.take (aX (L.take n))).length none:=by
 have hle:=iW (l:=L.take n);rw[bI]at hle;obtain⟨k,hk⟩:∃k,k=aX (L.take n):=⟨_,rfl⟩;rw[←hk]at hle he ⊢;by_cases h0:0<k
 . have e1:bY b k cap = .sl b 0 k 1 cap:=if_pos h0;rw[e1]at he ⊢;obtain rfl:=he (by simp[AV.top]);have hl:(L.take k).length=k:=by rw[bI];omega
   have hF:fG hh (.sl b 0 k 1 cap) (.vs (aq (L.take k)) k none):=by
    refine .sl (m:=aq (L.take k)) hb ?_ rfl (fun i x y hx hy=>?_)
    . have:=lJ (f:=uC) (esz:=1) (fun _=>rfl) (l:=L) (i:=0) (n:=k) ac;simpa using this
    . rw[hx]at hy;cases hy;exact .same (dg (iz _) hx)
   rw[hl];exact⟨_,hF,iz _,by rw[bR,lS]⟩
 . obtain rfl:k=0:=by omega
   exact⟨.vs [] 0 cap,.same rfl,rfl,rfl⟩
theorem kQ.trim {d1 d2:Option Nat}{b1 b2:Nat}{L1 L2:List Int}{e1 e2:TypeId}{hp:ae}{n1 n2:Nat}(h1:hp.at b1=some (.cells (aq L1) e1))(hn1:n1<=L1.length)(h2:hp.at b2=some (.cells (aq L2) e2))(hn2:n2<=L2.length) :
 kQ (aT [bY b1 (aX (L1.take n1)) d1,bY b2 (aX (L2.take n2)) d2]) (if (aT [bY b1 (aX (L1.take n1)) d1,bY b2 (aX (L2.take n2)) d2]).top<=0 then [] else hp) (L1.take (aX (L1.take n1))) (L2.take (aX (L2.take n2))):=by
 obtain⟨x,hx⟩:∃x,x=bY b1 (aX (L1.take n1)) d1:=⟨_,rfl⟩;obtain⟨y,hy⟩:∃y,y=bY b2 (aX (L2.take n2)) d2:=⟨_,rfl⟩;obtain⟨hh,hhh⟩:∃hh,hh=(if (aT [x,y]).top<=0 then [] else hp):=⟨_,rfl⟩;have et:(aT [x,y]).top=max x.top (max y.top 0):=rfl;obtain⟨v1,f1,t1,k1⟩:=IN (cap:=d1) h1 hn1 hh (fun h=>by rw[hhh,if_neg];rw[←hx]at h;omega);obtain⟨v2,f2,t2,k2⟩:=IN (cap:=d2) h2 hn2 hh (fun h=>by rw[hhh,if_neg];rw[←hy]at h;omega);rw[←hx,←hy,←hhh];rw[←hx]at f1;rw[←hy]at f2;refine⟨.ay [v1,v2],_,_,.ay rfl (fun i a b ha hb=>?_),?_,?_,.inl rfl,.inl rfl⟩
 . match i with
   | 0=>cases ha;cases hb;exact f1
   | 1=>cases ha;cases hb;exact f2
   | i+2=>cases ha
 . simp[AV.top,bG,t1,t2]
 . simp only[bR,da,k1,k2]
theorem kQ.less {hh:ae}{l:List Int}:kQ (aT [.ab,.vs (aq l) l.length cap]) hh [] l:=by
 have ht:(aT [.ab,.vs (aq l) l.length cap]).top=0:=by simp[aT,AV.top,bG,iz l]
 refine⟨aT [.ab,.vs (aq l) l.length cap],.ab,.vs (aq l) l.length none,.same ht,ht,?_,.inr ⟨rfl,rfl⟩,.inl rfl⟩;simp only[aT,bR,da,lS l]
def sd (M:az)(g:Nat)(ars:List AV)(x y:Int):Prop:=∃q r:List Int,(okW wB q/\aU q/\WV wB q=x/y)/\(okW wB r/\aU r/\WV wB r=x%y)/\∃v hh,kQ v hh q r/\bg M g ars [] ⟨v,hh,[]⟩
theorem IP {f N:Nat}{aV:List Nat}{res:List fK}{body:ao}{ars:List AV}{x y:Int}(hft:M.FT f=some ⟨N,aV,res,body⟩)(hN:ars.length<=N)
 (h:W M body ⟨⟨aV.map (fun t=>(ars[t]?).getD cV),[],[],[]⟩,[]⟩ fun e s=>(e = .normal\/e = .ret)/\s.s.cF=[]/\∃vs,dU s.s res=some vs/\∃q r:List Int,(okW wB q/\aU q/\WV wB q=x/y)/\(okW wB r/\aU r/\WV wB r=x%y)/\kQ (aT vs) (if (aT vs).top<=0 then [] else s.s.hp) q r):sd M f ars x y:=by
 obtain⟨v,hh,⟨q,r,hq,hr,ho⟩,h2⟩:=iL (P:=fun v hh=>∃q r:List Int,(okW wB q/\aU q/\WV wB q=x/y)/\(okW wB r/\aU r/\WV wB r=x%y)/\kQ v hh q r) hft hN h;exact⟨q,r,hq,hr,v,hh,ho,h2⟩
structure IQ (M:az):Prop extends Cu M where
 se:∀(a b:List Int) c1 c2 h,okW wB a->okW wB b->aU a->aU b->a.length<1000000000->b.length<1000000000->M.ext 286 [.vs (aq a) a.length c1,.vs (aq b) b.length c2] h=some ⟨.iV (bB (WV wB a-WV wB b)),h,[]⟩
 rX:∀(y:Int) h,(0<=y/\y<18446744073709551616)->M.ext 289 [.uV y] h=some ⟨.iV (64-eO y:Nat),h,[]⟩
theorem oE {x y q r:Int}(h:x=y*q+r)(h0:0<=r)(h1:r<y):q=x/y/\r=x%y:=by
 subst h;refine⟨?_,?_⟩
 . rw[j8,i6 _ _ ac,d7 h0 h1,j7]
 . rw[j8,Int.add_mul_emod_self_left,j9 h0 h1]
theorem Uw (C:Cs M)(a b:List Int)(oa:okW wB a)(ob:okW wB b)(la:a.length<10000000)(lb:b.length=1)(hb0:0<b[0]!){Q:Ex->aw->Prop}(a2 a3 a7 a8 a9 aA aB aC aD aE aF:AV)(lo:List (Nat×AV))
 (hQ:∀L (re:Int) lo wr,L.length=a.length->okW wB L->(0<=re/\re<b[0]!)->WV wB a=b[0]! * WV wB L+re ->
   Q (.exit 0) ⟨⟨[.vs (aq a) a.length c1,.vs (aq b) b.length c2,a2,a3,.sl 0 0 a.length 1 (some a.length),.uV re,.iV (-1),a7,a8,a9,aA,aB,aC,aD,aE,aF],lo,[some (.cells (aq L) 274)],[]⟩,wr⟩) :
 W M (.loop vv) ⟨⟨[.vs (aq a) a.length c1,.vs (aq b) b.length c2,a2,a3,.sl 0 0 a.length 1 (some a.length),.uV 0,.iV ((a.length:Int)-1),a7,a8,a9,aA,aB,aC,aD,aE,aF],lo,[some (.cells (aq (ck a.length 0)) 274)],[]⟩,[]⟩ Q:=by
 refine W.gP (fun t s=>∃L re iv lo wr,s=⟨⟨[.vs (aq a) a.length c1,.vs (aq b) b.length c2,a2,a3,.sl 0 0 a.length 1 (some a.length),.uV re,.iV iv,a7,a8,a9,aA,aB,aC,aD,aE,aF],lo,[some (.cells (aq L) 274)],[]⟩,wr⟩ /\
  iv=(t:Int)-1/\t<=a.length/\L.length=a.length/\okW wB L/\(0<=re/\re<b[0]!)/\(∀k,k<t->L[k]! = 0)/\WV wB a=b[0]! * WV wB L+wB^t*re+WV wB (a.take t)) (fun t s ⟨L,re,iv,lo,wr,hs,hiv,ht,hL,oL,hre,hz,hv⟩=>?_) (m:=a.length)
  ⟨_,_,_,_,_,rfl,rfl,ba _,am,kM ak,⟨ak,hb0⟩,fun k _=>kP,by rw[kN,c7];simp⟩
 subst hs;cases t with
 | zero=>
  obtain rfl:iv = -1:=by omega
  unfold vv;repeat' first|apply aaK|apply aa|apply aaI|apply aaC|apply acV|apply bh|apply bF|(apply acj;rfl)|(apply aeY;rfl;rfl)|(apply abx;rfl;rfl)|(intro _;omega)|intro _
  all_goals try omega
  exact hQ L re _ _ hL oL hre (by rw[hv];simp[WV])
 | succ i=>
  obtain rfl:iv=(i:Int):=by omega
  have gx:=cG oa (i:=i) ac;obtain⟨x,hx⟩:∃x,x=a[((i:Int)).toNat]! := ⟨_,rfl⟩;rw[show a[i]! = x from hx.symm]at gx;have gx:0<=x/\x<18446744073709551616:=gx;have gy:=cG ob (i:=0) ac;obtain⟨y,hy⟩:∃y,y=b[(0:Int).toNat]! := ⟨_,rfl⟩;rw[show b[0]! = y from hy.symm]at gy hre hb0 hv hQ;have gy:0<=y/\y<18446744073709551616:=gy;have q287:=fun h=>C.Ct re x y h ⟨hb0,gy.2⟩ hre gx
  have e1:=d9 (re*18446744073709551616+x) y;have r0:=hJ (re*18446744073709551616+x) (show y≠0 by omega);have r1:=f7 (re*18446744073709551616+x) hb0;have d0:0<=(re*18446744073709551616+x)/y:=dw ac ac;have d1:(re*18446744073709551616+x)/y<18446744073709551616:=ci ac ac;obtain⟨d,hd⟩:∃d,d=(re*18446744073709551616+x)/y:=⟨_,rfl⟩;obtain⟨r,hr⟩:∃r,r=(re*18446744073709551616+x)%y:=⟨_,rfl⟩;rw[←hd,←hr]at q287 e1;rw[←hd]at d0 d1;rw[←hr]at r0 r1;have eI:0+((i:Int)).toNat*1=i:=by omega
  have next:∀lo wr,LI (fun s=>∃m',m'<i+1/\∃L re iv lo wr,s=⟨⟨[.vs (aq a) a.length c1,.vs (aq b) b.length c2,a2,a3,.sl 0 0 a.length 1 (some a.length),.uV re,.iV iv,a7,a8,a9,aA,aB,aC,aD,aE,aF],lo,[some (.cells (aq L) 274)],[]⟩,wr⟩ /\
   iv=(m':Int)-1/\m'<=a.length/\L.length=a.length/\okW wB L/\(0<=re/\re<b[0]!)/\(∀k,k<m'->L[k]! = 0)/\WV wB a=b[0]! * WV wB L+wB^m'*re+WV wB (a.take m')) Q .normal ⟨⟨[.vs (aq a) a.length c1,.vs (aq b) b.length c2,a2,a3,.sl 0 0 a.length 1 (some a.length),.uV r,.iV ((i:Int)-1),a7,a8,a9,aA,aB,aC,aD,aE,aF],lo,[some (.cells (aq (L.set i d)) 274)],[]⟩,wr⟩:=fun lo wr=>
   ek ⟨i,kw i,_,_,_,lo,wr,rfl,rfl,ac,by rw[aL];exact hL,gD oL ⟨d0,d1⟩,⟨r0,by rw[show b[0]! = y from hy.symm];exact r1⟩,fun k hk=>by rw[ic ac];exact hz k ac,by
    rw[show b[0]! = y from hy.symm,hv,gE ac,hz i ac,fI ac,show a[i]! = x from hx.symm,b7,fW];have e2:wB^i*wB*re+wB^i*x=wB^i*(y*d+r):=by rw[e1];show wB^i*18446744073709551616*re+_=_;grind
    rw[b8]at e2 ⊢;have e3:y*(wB^i*d)=wB^i*(y*d):=by grind
    rw[e3];omega⟩
  rw[hx,hy]at q287;unfold vv;repeat' first|(apply adA;rfl;rfl;(first|(simp only[nca];rfl)|rfl);first|exact q287 _)|(apply afH;exact congrArg (fun z=>some (AV.ptr 0 z)) eI;rfl;rfl;omega)|apply aaK|apply aa|apply aaI|apply aaC|apply acu|apply acn|apply bc|apply adJ|apply adY|(apply aez;rfl)|(apply aeu;rfl;rfl;(first|(simp only[nca];rfl)|rfl))|(apply aeV;rfl;(first|(simp only[nca];rfl)|rfl);(first|(simp only[nca];rfl)|rfl))|(apply ack;rfl)|(apply aeY;rfl;rfl)|(apply aeR;rfl;rfl;omega)|(apply afb;rfl;rfl;omega)|(apply afn;rfl;rfl;omega)|(apply afo;rfl;exact fun _=>rfl;(first|omega|(simp only[aL];omega)|(simp;omega));decide;rfl;case ia=>infer_instance)|(apply abx;rfl;rfl)|(apply abO;rfl;rfl)|(intro _;omega)|intro _
  all_goals try omega
  exact next _ _
theorem afU {t b m:Nat}{x:aS}{l:List bj}{pe:List AV}{lo:List (Nat×AV)}{hp:ae}{df wr:List Nat}{L:List Int}{e:TypeId}{v:Int}{Q:aw->Prop}(hx:(St.mk pe lo hp df).ah x=some (.ptr b m))(hb:hp.at b=some (.cells (aq L) e))(hi:m<L.length)(hv:L[m]! = v)
 (h:WO M l ⟨⟨pe,(t,.uV v)::lo,hp,df⟩,wr⟩ Q):WO M (⟨.l t,.load 1 false x,none⟩::l) ⟨⟨pe,lo,hp,df⟩,wr⟩ Q:=by
 subst hv;exact afO hx hb hi h
theorem Ux (C:Cu M){k N:Nat}{V Y U0:List Int}(lN:N<10000000)(hN:k+3<=N)(hV:V.length=k+2)(oV:okW wB V)(hv:9223372036854775808<=V[k+1]!)(hU0:U0.length=N)(oU0:okW wB U0)(hup:WV wB (U0.drop (N-(k+2)))<WV wB V){Q:Ex->aw->Prop}(a0 a1 a2 a3 a4 a5 a6 a7 aD aE aF:AV)(lo:List (Nat×AV))(wr:List Nat)
 (hQ:∀U L lo wr,U.length=N->okW wB U->L.length=N-(k+2)->okW wB L->WV wB U0=WV wB V*WV wB L+WV wB U->WV wB U<WV wB V ->
   Q (.exit 2) ⟨⟨[a0,a1,a2,a3,a4,a5,a6,a7,.sl 0 0 (k+2) 1 cv,.sl 1 0 N 1 (some N),.iV ((k+2:Nat):Int),.sl 2 0 (N-(k+2)) 1 cap,.iV (-1),aD,aE,aF],lo,[some (.cells (aq (V++Y)) 274),some (.cells (aq U) 274),some (.cells (aq L) 274)],[]⟩,wr⟩)
 (j:Int) (hj:j=(N:Int)-(k+3)) :
 W M (.loop vw) ⟨⟨[a0,a1,a2,a3,a4,a5,a6,a7,.sl 0 0 (k+2) 1 cv,.sl 1 0 N 1 (some N),.iV ((k+2:Nat):Int),.sl 2 0 (N-(k+2)) 1 cap,.iV j,aD,aE,aF],lo,[some (.cells (aq (V++Y)) 274),some (.cells (aq U0) 274),some (.cells (aq (ck (N-(k+2)) 0)) 274)],[]⟩,wr⟩ Q:=by
 refine W.gP (fun t s=>∃U L iv lo wr,s=⟨⟨[a0,a1,a2,a3,a4,a5,a6,a7,.sl 0 0 (k+2) 1 cv,.sl 1 0 N 1 (some N),.iV ((k+2:Nat):Int),.sl 2 0 (N-(k+2)) 1 cap,.iV iv,aD,aE,aF],lo,[some (.cells (aq (V++Y)) 274),some (.cells (aq U) 274),some (.cells (aq L) 274)],[]⟩,wr⟩ /\
  iv=(t:Int)-1/\t<=N-(k+2)/\U.length=N/\okW wB U/\L.length=N-(k+2)/\okW wB L/\(∀k,k<t->L[k]! = 0)/\WV wB U0=WV wB V*WV wB L+WV wB U/\WV wB (U.drop t)<WV wB V) (fun t s ⟨U,L,iv,lo,wr,hs,hiv,ht,hU,oU,hL,oL,hz,hv1,hv2⟩=>?_) (m:=N-(k+2))
  ⟨_,_,_,_,_,rfl,ac,ba _,hU0,oU0,am,kM ak,fun k _=>kP,by rw[kN,ce,j7],hup⟩
 subst hs;cases t with
 | zero=>
  obtain rfl:iv = -1:=by omega
  unfold vw;repeat' first|apply aaK|apply aa|apply aaI|apply aaC|apply acV|apply bh|apply bF|(apply acj;rfl)|(apply aeY;rfl;rfl)|(apply abx;rfl;rfl)|(intro _;omega)|intro _
  all_goals try omega
  exact hQ U L _ _ hU oU hL oL hv1 hv2
 | succ i=>
  obtain rfl:iv=(i:Int):=by omega
  obtain⟨q,U',hq,lU,oU',vU,tU,w,hw,hct⟩:=Uv (cu:=some (N-i)) (cv:=cv) (bu:=1) (bv:=0) (e:=274) (e':=274) (hp:=[some (.cells (aq (V++Y)) 274),some (.cells (aq U) 274),some (.cells (aq L) 274)]) (U:=U) (V:=V) (Y:=Y) (j:=i) C rfl ak rfl (show k<10000000 by omega) ac oU hV oV hv hv2;have hct:CT M (.fn (.func 291) [] []) [.sl 1 i (k+3) 1 (some (N-i)),.sl 0 0 (k+2) 1 cv] [some (.cells (aq (V++Y)) 274),some (.cells (aq U) 274),some (.cells (aq L) 274)] ⟨.uV q,[some (.cells (aq (V++Y)) 274),some (.cells (aq U') 274),some (.cells (aq L) 274)],w⟩:=hct;have eI:0+((i:Int)).toNat*1=i:=by omega
  have next:∀lo wr,LI (fun s=>∃m',m'<i+1/\∃U L iv lo wr,s=⟨⟨[a0,a1,a2,a3,a4,a5,a6,a7,.sl 0 0 (k+2) 1 cv,.sl 1 0 N 1 (some N),.iV ((k+2:Nat):Int),.sl 2 0 (N-(k+2)) 1 cap,.iV iv,aD,aE,aF],lo,[some (.cells (aq (V++Y)) 274),some (.cells (aq U) 274),some (.cells (aq L) 274)],[]⟩,wr⟩ /\
   iv=(m':Int)-1/\m'<=N-(k+2)/\U.length=N/\okW wB U/\L.length=N-(k+2)/\okW wB L/\(∀k,k<m'->L[k]! = 0)/\WV wB U0=WV wB V*WV wB L+WV wB U/\WV wB (U.drop m')<WV wB V) Q .normal ⟨⟨[a0,a1,a2,a3,a4,a5,a6,a7,.sl 0 0 (k+2) 1 cv,.sl 1 0 N 1 (some N),.iV ((k+2:Nat):Int),.sl 2 0 (N-(k+2)) 1 cap,.iV ((i:Int)-1),aD,aE,aF],lo,[some (.cells (aq (V++Y)) 274),some (.cells (aq U') 274),some (.cells (aq (L.set i q)) 274)],[]⟩,wr⟩:=fun lo wr=>
   ek ⟨i,kw i,_,_,_,lo,wr,rfl,rfl,ac,ac,oU',by rw[aL];exact hL,gD oL hq,fun k hk=>by rw[ic ac];exact hz k ac,by
    rw[gE ac,hz i ac,fW,vU,hv1,b8];have e3:WV wB V*(wB^i*q)=wB^i*(q*WV wB V):=by rw[←bP,bW (WV wB V),bP,bW (WV wB V)]
    rw[e3];omega,tU⟩
  unfold vw;repeat' first|(apply agF i (k+3);rfl;rfl;rfl;rfl;omega;omega;omega)|(apply afp;rfl;rfl;first|exact hct)|(apply afH;exact congrArg (fun z=>some (AV.ptr 2 z)) eI;rfl;rfl;omega)|apply aaK|apply aa|apply aaI|apply aaC|apply acu|apply acn|apply bc|(apply ack;rfl)|(apply aeY;rfl;rfl)|(apply adz;rfl;rfl;omega)|(apply aeR;rfl;rfl;omega)|(apply afn;rfl;rfl;omega)|(apply abx;rfl;rfl)|(apply abO;rfl;rfl)|(intro _;omega)|intro _
  all_goals try omega
  exact next _ _
theorem Uy {x z:Int}{s:Nat}(hx:0<=x/\x<18446744073709551616)(hs:s<=63) :
 (0<=x/2^s/\x/2^s<2^(64-s))/\(0<=z*2^(64-s)%18446744073709551616/\z*2^(64-s)%18446744073709551616<18446744073709551616)/\z*2^(64-s)%18446744073709551616%2^(64-s)=0 /\
   (0<=x/2^s+z*2^(64-s)%18446744073709551616/\x/2^s+z*2^(64-s)%18446744073709551616<18446744073709551616) /\
   2^s*(x/2^s+z*2^(64-s)%18446744073709551616)=x-x%2^s+18446744073709551616*(z%2^s):=by
 have hp2:=b6 (n:=2) (m:=s) ak;have hps:=vO (s:=s) ac;have hp3:=b6 (n:=2) (m:=64-s) ak;have e1:z*2^(64-s)%18446744073709551616=z%2^s*2^(64-s):=by
  rw[←hps,bW z,bW (2^s),Int.mul_emod_mul_of_pos _ _ hp3,bW]
 have h1:0<=x/2^s:=dw hx.1 ac;have h2:x/2^s<2^(64-s):=ci hp2 (by rw[bW,hps];exact hx.2);have h3:=hJ z (show (2:Int)^s≠0 by omega);have h4:=f7 z hp2;have h5:=d9 x (2^s);have h6:2^s*(z%2^s*2^(64-s))=18446744073709551616*(z%2^s):=by
  rw[bW (z%2^s),←bP,hps]
 have h7:0<=z%2^s*2^(64-s):=cn h3 ac;have h8:(z%2^s+1)*2^(64-s)<=18446744073709551616:=by
  rw[←hps];exact be ac ac
 rw[c0,dL]at h8;have hm:0<=z*2^(64-s)%18446744073709551616/\z*2^(64-s)%18446744073709551616<18446744073709551616:=by omega
 refine⟨⟨h1,h2⟩,hm,by rw[e1];exact ix _ _,?_,?_⟩
 . rw[e1];omega
 . rw[e1,b8,h6];omega
theorem Uz {k N s:Nat}{U:List Int}{B0 B2:Option cd}(hs:s<=63)(lN:N<10000000)(hN:k+3<=N)(hU:U.length=N)(oU:okW wB U){Q:Ex->aw->Prop}(a0 a1 a2 a3 a4 a5 a6 a8 aB aC aD:AV)(lo:List (Nat×AV))(wr:List Nat)
 (hQ:∀D aD lo wr,D.length=N->okW wB D->(2:Int)^s*WV wB (D.take (k+2))=WV wB (U.take (k+2))-U[0]! % 2^s+wB^(k+2)*(U[k+2]! % 2^s) ->
   Q (.exit 4) ⟨⟨[a0,a1,a2,a3,a4,a5,a6,.iV s,a8,.sl 1 0 N 1 (some N),.iV ((k+2:Nat):Int),aB,aC,aD,.iV ((k+2:Nat):Int),.iV ((k+2:Nat):Int)],lo,[B0,some (.cells (aq D) 274),B2],[]⟩,wr⟩) :
 W M (.loop vy) ⟨⟨[a0,a1,a2,a3,a4,a5,a6,.iV s,a8,.sl 1 0 N 1 (some N),.iV ((k+2:Nat):Int),aB,aC,aD,.iV ((k+2:Nat):Int),.iV 0],lo,[B0,some (.cells (aq U) 274),B2],[]⟩,wr⟩ Q:=by
 refine W.jq (k+2) (fun i s'=>∃D aD lo wr,s'=⟨⟨[a0,a1,a2,a3,a4,a5,a6,.iV s,a8,.sl 1 0 N 1 (some N),.iV ((k+2:Nat):Int),aB,aC,aD,.iV ((k+2:Nat):Int),.iV i],lo,[B0,some (.cells (aq D) 274),B2],[]⟩,wr⟩ /\
  D.length=N/\okW wB D/\(∀k,i<=k->D[k]! = U[k]!)/\(2:Int)^s*WV wB (D.take i)=WV wB (U.take i)-U[0]! % 2^s+wB^i*(U[i]! % 2^s)) (fun i s' hi ⟨D,aD,lo,wr,hs',hD,oD,hk,hv⟩=>?_) (fun s' ⟨D,aD,lo,wr,hs',hD,oD,hk,hv⟩=>?_) (ew _)
  ⟨_,_,_,_,rfl,hU,oU,fun k _=>rfl,by simp[WV];omega⟩
 . subst hs';have gx:=cG oU (i:=i) ac;obtain⟨x,hx⟩:∃x,x=U[i]! := ⟨_,rfl⟩;rw[←hx]at gx;have gx:0<=x/\x<18446744073709551616:=gx;have gz:=cG oU (i:=i+1) ac;obtain⟨z,hz⟩:∃z,z=U[i+1]! := ⟨_,rfl⟩;rw[←hz]at gz;have gz:0<=z/\z<18446744073709551616:=gz;obtain⟨w1,w2,w3,w4,w5⟩:=Uy (z:=z) gx hs;have f0:D[i]! = x:=by rw[hk i (ba _),hx]
   have f1:(D.set i (x/2^s))[i]! = x/2^s:=vH ac;have f2:(D.set i (x/2^s))[i+1]! = z:=by rw[ic ac,hk (i+1) ac,hz]
   have eI:0+((i:Int)).toNat*1=i:=by omega
   have eJ:0+((i:Int)+1).toNat*1=i+1:=by omega
   have fin:∀D' d,D'=D.set i d->d=x/2^s+z*2^(64-s)%18446744073709551616->D'.length=N/\okW wB D'/\(∀k,i+1<=k->D'[k]! = U[k]!)/\(2:Int)^s*WV wB (D'.take (i+1))=WV wB (U.take (i+1))-U[0]! % 2^s+wB^(i+1)*(U[i+1]! % 2^s):=fun D' d e ed=>by
    subst e;refine⟨by rw[aL];exact hD,gD oD (by rw[ed];exact w4),fun k hk'=>by rw[ic ac];exact hk k ac,?_⟩;rw[fI (by rw[aL];omega),vH ac,List.take_set_of_le (ba i),b8,hv,fI ac,←hx,←hz,b7];have e1:(2:Int)^s*(wB^i*d)=wB^i*(x-x%2^s+18446744073709551616*(z%2^s)):=by rw[←w5,←ed,←bP,bW (2^s),bP]
    rw[e1,b8,f8,←bP (wB^i) 18446744073709551616];show _=_+wB^i*18446744073709551616*_;omega
   unfold vy;by_cases h0:(0:Int)<s
   . repeat' first|(apply afU (v:=x);exact congrArg (fun z=>some (AV.ptr 1 z)) eI;rfl;omega;exact f0)|(apply afV (n:=s);rfl;rfl;rfl;omega)|(apply afH;exact congrArg (fun z=>some (AV.ptr 1 z)) eI;rfl;rfl;omega)|(apply afU (v:=x/2^s);exact congrArg (fun z=>some (AV.ptr 1 z)) eI;rfl;(rw[aL];omega);exact f1)|(apply afU (v:=z);exact congrArg (fun z=>some (AV.ptr 1 z)) eJ;rfl;(rw[aL];omega);exact f2)|(apply aga (n:=64-s);rfl;rfl;omega;omega)|(apply agj (64-s);rfl;rfl;exact w1;exact w2;omega;exact w3)|(apply afH;exact congrArg (fun z=>some (AV.ptr 1 z)) eI;rfl;rfl;(rw[aL];omega))|apply aaK|apply aa|apply aaI|apply aaC|apply acu|apply acn|apply bc|apply adJ|apply adY|(apply aez;rfl)|(apply aeu;rfl;rfl;(first|(simp only[nca];rfl)|rfl))|(apply aeV;rfl;(first|(simp only[nca];rfl)|rfl);(first|(simp only[nca];rfl)|rfl))|(apply ack;rfl)|(apply adx;rfl)|(apply acE;rfl;rfl)|(apply acI;rfl;rfl)|(apply acJ;rfl;rfl)|(apply adz;rfl;rfl;omega)|(apply aeR;rfl;rfl;omega)|(apply afn;rfl;rfl;omega)|(apply abx;rfl;rfl)|(apply abO;rfl;rfl)|(intro _;omega)|intro _
     all_goals try omega
     obtain⟨f1,f2,f3,f4⟩:=fin _ _ (List.set_set _) rfl;exact ek ⟨_,_,_,_,rfl,f1,f2,f3,f4⟩
   . have e0:x/2^s=x/2^s+z*2^(64-s)%18446744073709551616:=by
      have:s=0:=by omega
      subst this;have:z*2^(64-0)%18446744073709551616=0:=by
       show z*18446744073709551616%18446744073709551616=0;omega
      omega
     repeat' first|(apply afU (v:=x);exact congrArg (fun z=>some (AV.ptr 1 z)) eI;rfl;omega;exact f0)|(apply afV (n:=s);rfl;rfl;rfl;omega)|(apply afH;exact congrArg (fun z=>some (AV.ptr 1 z)) eI;rfl;rfl;omega)|apply aaK|apply aa|apply aaI|apply aaC|apply acu|apply acn|apply bc|(apply ack;rfl)|(apply acj;rfl)|(apply aeU;rfl)|(apply acE;rfl;rfl)|(apply acI;rfl;rfl)|(apply adt;rfl;rfl)|(apply adz;rfl;rfl;omega)|(apply afn;rfl;rfl;omega)|(apply abx;rfl;rfl)|(apply abO;rfl;rfl)|(intro _;omega)|intro _
     all_goals try omega
     obtain⟨f1,f2,f3,f4⟩:=fin _ _ rfl e0;exact ek ⟨_,_,_,_,rfl,f1,f2,f3,f4⟩
 . subst hs';unfold vy;repeat' first|apply aaK|apply aa|apply aaI|apply aaC|apply acV|apply bh|apply bF|(apply acj;rfl)|(apply acE;rfl;rfl)|(intro _;omega)|intro _
   all_goals try omega
   exact hQ D _ _ _ hD oD hv
theorem agy {t n b r:Nat}{k:IntKind}{x y:aS}{l:List bj}{pe:List AV}{lo:List (Nat×AV)}{hp:ae}{df wr:List Nat}{Q:aw->Prop}(hx:(St.mk pe lo hp df).ah x=some (.sl b 0 n 1 cap))(hy:(St.mk pe lo hp df).ah y=some (.int k r))(h0:0<r)(hr:r<=n)(hc:∀c,cap=some c->n<=c)
 (h:WO M l ⟨⟨pe,(t,.sl b 0 r 1 cap)::lo,hp,df⟩,wr⟩ Q):WO M (⟨.l t,.slice .sl 1 x none (some y) none,none⟩::l) ⟨⟨pe,lo,hp,df⟩,wr⟩ Q:=
 agh hx hy hr hc (by rw[show bY b r cap = .sl b 0 r 1 cap from if_pos h0];exact h)
theorem vY {L:List Int}{n:Nat}:L.take (aX (L.take n))=(L.take n).take (aX (L.take n)):=by
 have:=iW (l:=L.take n);rw[bI]at this;rw[List.take_take,cP ac]
theorem UA {b rb:List Int}{k s:Nat}(hb:b.length=k+2)(ob:okW wB b)(nb:aU b)(hs:s=64-eO b[k+1]!)(lr:rb.length=k+3)(oR:okW wB rb)(vr:WV wB rb=WV wB b*2^s) :
 s<=63/\aX (rb.take (k+3))=k+2/\∃V Y,rb=V++Y/\V.length=k+2/\okW wB V/\WV wB V=WV wB b*2^s/\9223372036854775808<=V[k+1]! := by
 have t0:=ox nb ac;rw[hb,show k+2-1=k+1 by omega]at t0;have gt:=cG ob (i:=k+1) ac;have gt:0<=b[k+1]! /\ b[k+1]! < 18446744073709551616:=gt;obtain⟨s1,s2,s3⟩:=vM (x:=b[k+1]!) ac;have s4:=Co (x:=b[k+1]!) (n:=64) (by have:=gt.2;exact this) gt.1;have hs63:s<=63:=by omega
 have e0:=km (b:=wB) (l:=b) (n:=k+1) ac;obtain⟨t,ht⟩:∃t,t=b[k+1]! := ⟨_,rfl⟩;rw[←ht]at t0 gt s1 s2 s3 s4 e0 hs;obtain⟨n,hn⟩:∃n,eO t=n+1:=⟨eO t-1,ac⟩;rw[hn]at s2 s3 hs;rw[show n+1-1=n by omega]at s2;have p1:(2:Int)^n*2^s=9223372036854775808:=by rw[←dK,show n+s=63 by omega];decide
 have p2:(2:Int)^(n+1)*2^s=18446744073709551616:=by rw[←dK,show n+1+s=64 by omega];decide
 have hp2:=b6 (n:=2) (m:=s) ak;have m1:=be s2 (bA hp2);have m2:=be (show t+1<=2^(n+1) by omega) (bA hp2);rw[p1]at m1;rw[p2,c0,dL]at m2;have hP:0<wB^(k+1):=b6 ak;have l0:=cK (b:=wB) ak (ee ob (k+1));have l1:=dM (b:=wB) ak (ee ob (k+1));rw[bI,cP ac]at l1;have m3:wB^(k+1)*9223372036854775808<=WV wB rb:=by
  have h1:=aY m1 (bA hP);have h2:=cn l0 (bA hp2);rw[vr,e0,c0,bP];omega
 have m4:WV wB rb<wB^(k+1)*18446744073709551616:=by
  have h1:=aY m2 (bA hP);have h2:=b9 l1 hp2;rw[b8]at h1;rw[vr,e0,c0,bP];omega
 have e1:=km (b:=wB) (l:=rb) (n:=k+2) ac;have e2:WV wB (rb.take (k+2))=WV wB (rb.take (k+1))+wB^(k+1)*rb[k+1]! := fI ac;have g2:=cG oR (i:=k+2) ac;have g1:=cG oR (i:=k+1) ac;have n2:=cK (b:=wB) ak (ee oR (k+2));have n1:=dM (b:=wB) ak (ee oR (k+1));rw[bI,cP ac]at n1;have hPs:wB^(k+2)=wB^(k+1)*18446744073709551616:=b7 _ _;have z2:rb[k+2]! = 0:=by
  rcases cT 0 rb[k+2]! with h|h
  . have:=aY (show 1<=rb[k+2]! by omega) (show 0<=wB^(k+2) by rw[hPs];omega);rw[hPs]at this e1;omega
  . have:=g2.1;omega
 rw[z2,ce,c8]at e1;have z1:9223372036854775808<=rb[k+1]! := by
  have:wB^(k+1)*9223372036854775808<wB^(k+1)*(rb[k+1]! + 1):=by rw[b8,gF];omega
  have:=c9 this (bA hP);omega
 refine⟨hs63,?_,rb.take (k+2),rb.drop (k+2),(d8 _ _).symm,by rw[bI];omega,ee oR _,by rw[←e1,vr],?_⟩
 . rw[ou ac,if_pos z2,ou ac,if_neg ac]
 . have:(rb.take (k+2))[k+1]! = rb[k+1]! := by
    simp only[bN];rw[List.getElem?_take_of_lt ac]
   rw[this];exact z1
theorem UB {a b U:List Int}{k s:Nat}(ha:k+2<=a.length)(oa:okW wB a)(hb:b.length=k+2)(ob:okW wB b)(nb:aU b)(hU:U.length=a.length+1)(oU:okW wB U)(vU:WV wB U=WV wB a*2^s) :
 WV wB (U.drop (a.length+1-(k+2)))<WV wB b*2^s:=by
 have hp2:=b6 (n:=2) (m:=s) ak;have e1:=lM (b:=wB) (l:=U) (i:=a.length+1-(k+2)) ac;have l0:=cK (b:=wB) ak (ee oU (a.length+1-(k+2)));have l1:=dM (b:=wB) ak oa;have hg:=qm (b:=wB) ak ob nb ac;rw[hb,show k+2-1=k+1 by omega]at hg;have hP:0<wB^(a.length+1-(k+2)):=b6 ak;have ep:wB^a.length=wB^(a.length+1-(k+2))*wB^(k+1):=by rw[←dK,show a.length+1-(k+2)+(k+1)=a.length by omega]
 have m1:=b9 l1 hp2;have m2:=be hg (bA hp2);rw[ep,bP]at m1;have:wB^(a.length+1-(k+2))*WV wB (U.drop (a.length+1-(k+2)))<wB^(a.length+1-(k+2))*(wB^(k+1)*2^s):=by omega
 have:=c9 this (bA hP);omega
theorem UC {U D:List Int}{k s:Nat}{r:Int}(hU:k+3<=U.length)(oU:okW wB U)(hlt:WV wB U<wB^(k+2))(hr:WV wB U=(2:Int)^s*r)(hs:s<=63)
 (h:(2:Int)^s*WV wB (D.take (k+2))=WV wB (U.take (k+2))-U[0]! % 2^s+wB^(k+2)*(U[k+2]! % 2^s)):WV wB (D.take (k+2))=r:=by
 have hp2:=b6 (n:=2) (m:=s) ak;have hps:=vO (s:=s) ac;have e1:=lM (b:=wB) (l:=U) (i:=k+2) ac;have l0:=cK (b:=wB) ak (ee oU (k+2));have l1:=cK (b:=wB) ak (js oU (k+2));have hP:0<wB^(k+2):=b6 ak;have z:WV wB (U.drop (k+2))=0:=by
  rcases cT 0 (WV wB (U.drop (k+2))) with h|h
  . have:=aY (show 1<=WV wB (U.drop (k+2)) by omega) (bA hP);omega
  . omega
 rw[z,ce,c8]at e1;have z2:U[k+2]! = 0:=by
  have d:=ot (b:=wB) (l:=U) (i:=k+2) ac;have g:=cG oU (i:=k+2) ac;have l2:=cK (b:=wB) ak (js oU (k+2+1));have g:=g.1;rw[z]at d;have d:0=U[k+2]! + 18446744073709551616*WV wB (U.drop (k+2+1)):=d;omega
 have z0:U[0]! % 2^s=0:=by
  have d:=ot (b:=wB) (l:=U) (i:=0) ac;rw[gc,hr]at d;refine Int.emod_eq_zero_of_dvd ⟨r-2^(64-s)*WV wB (U.drop (0+1)),?_⟩;rw[f8,←bP,hps];have d:(2:Int)^s*r=U[0]! + 18446744073709551616*WV wB (U.drop (0+1)):=d;omega
 rw[z0,z2,Int.zero_emod,ce,c8,fW,←e1,hr]at h;exact Int.eq_of_mul_eq_mul_left ac h
theorem IT {x y q u p:Int}(hp:0<p)(h:x*p=y*p*q+u)(h0:0<=u)(h1:u<y*p):q=x/y/\u=p*(x%y):=by
 have e:u=p*(x-y*q):=by
  rw[f8,←bP,bW p x,bW p y];omega
 have r0:0<=x-y*q:=by
  rcases cT (x-y*q) 0 with h'|h'
  . have:=Int.mul_lt_mul_of_pos_left h' hp;rw[ce]at this;omega
  . exact h'
 have r1:x-y*q<y:=by
  have h2:p*(x-y*q)<p*y:=by rw[←e,bW p y];exact h1
  exact c9 h2 (bA hp)
 obtain⟨g1,g2⟩:=oE (x:=x) (y:=y) (q:=q) (r:=x-y*q) ac r0 r1;exact⟨g1,by rw[e,g2]⟩
theorem UD (C:IQ M)(a b:List Int)(oa:okW wB a)(ob:okW wB b)(na:aU a)(nb:aU b)(la:a.length<1000000)(lb:b.length<1000000)(hb:b≠[]):sd M 220 [.vs (aq a) a.length c1,.vs (aq b) b.length c2] (WV wB a) (WV wB b):=by
 have a0:=cK (b:=wB) ak oa;have b0:=(ib (b:=wB) ak ob nb).2 hb;have q286:=fun h=>C.se a b c1 c2 h oa ob na nb ac ac
 refine IP (by rw[C.ft];exact Ir) am ?_;unfold Ci;simp only[enter];by_cases hlt:WV wB a<WV wB b
 . have e:bB (WV wB a-WV wB b) = -1:=if_pos ac;rw[e]at q286;repeat' first|apply aaK|apply aa|apply aaI|apply aaC|apply abZ|apply aP|(apply ack;rfl)|(apply acE;rfl;rfl)|(apply acq;rfl;rfl;first|exact q286 _)|(apply abx;rfl;rfl)|(apply abO;rfl;rfl)|(intro _;omega)|intro _
   all_goals try omega
   exact⟨.inr rfl,rfl,_,rfl,[],a,⟨iU,kl,(d7 a0 hlt).symm⟩,⟨oa,na,(j9 a0 hlt).symm⟩,kQ.less⟩
 have hg:∃g,g=bB (WV wB a-WV wB b):=⟨_,rfl⟩;obtain⟨g,hg⟩:=hg;have g0:0<=g:=by
  rw[hg];unfold bB;split
  . omega
  . split <;> omega
 rw[←hg]at q286;have lb0:b.length≠0:=fun h=>hb (gT h)
 by_cases hl1:b.length=1
 . have t0:=ox nb ac;rw[hl1,show 1-1=0 by omega]at t0;have gb:=cG ob (i:=0) ac;have vb:WV wB b=b[0]! := by
    have:=km (b:=wB) (l:=b) (n:=0) ac;simpa[WV] using this
   repeat' first|apply aaK|apply aa|apply aaI|apply aaC|apply acu|apply acn|(apply ack;rfl)|(apply acj;rfl)|(apply acE;rfl;rfl)|(apply adw;rfl;rfl)|(apply aeR;rfl;rfl;omega)|(apply acq;rfl;rfl;first|exact q286 _)|(apply afL;rfl;rfl;omega)|(apply abx;rfl;rfl)|(apply abO;rfl;rfl)|(intro _;omega)|intro _
   all_goals try omega
   refine Uw (c1:=c1) (c2:=c2) C.toCs a b oa ob ac hl1 ac _ _ _ _ _ _ _ _ _ _ _ _ (fun L re lo wr hL oL hre hv=>?_);have q1:CT M (.fn (.func 288) [] []) [.sl 0 0 a.length 1 (some a.length)] [some (.cells (aq L) 274)] ⟨bY 0 (aX (L.take a.length)) (some a.length),[some (.cells (aq L) 274)],[]⟩:=C.lO (cap:=some a.length) rfl ac ac (fun c hc=>by cases hc;exact ba _);have q2:CT M (.fn (.func 288) [] []) [.sl 1 0 1 1 (some 1)] [some (.cells (aq L) 274),some (.cells (aq [re]) 274)] ⟨bY 1 (aX ([re].take 1)) (some 1),[some (.cells (aq L) 274),some (.cells (aq [re]) 274)],[]⟩:=C.lO (cap:=some 1) rfl am ac (fun c hc=>by cases hc;exact ba _);repeat' first|apply aaK|apply aa|apply aaI|apply aaC|apply abZ|apply aP|apply bk|(apply afp;rfl;rfl;first|exact q1|exact q2)|(apply acH;rfl;rfl;rfl)|(apply abx;rfl;rfl)|(apply abO;rfl;rfl)
   have hout:=kQ.trim (d1:=some a.length) (d2:=some 1) (b1:=0) (b2:=1) (L1:=L) (L2:=[re]) (e1:=274) (e2:=274) (hp:=[some (.cells (aq L) 274),some (.cells (aq [re]) 274)]) (n1:=a.length) (n2:=1) rfl ac rfl am;have vb':WV wB a=WV wB b*WV wB L+re:=by rw[vb];exact hv
   obtain⟨d1,d2⟩:=oE vb' hre.1 (by rw[vb];exact hre.2);refine⟨.inr rfl,rfl,_,rfl,_,_,?_,?_,hout⟩
   . rw[vY,aR (show L.length<=a.length by omega)];obtain⟨h1,h2,h3⟩:=mR oL;exact⟨h1,h2,by rw[h3,d1]⟩
   . rw[vY,aR (show [re].length<=1 by simp)];have gy:b[0]! < 18446744073709551616:=gb.2;obtain⟨h1,h2,h3⟩:=mR (L:=[re]) (fun x hx=>by rw[f6.1 hx];exact⟨hre.1,by show _<(18446744073709551616:Int);omega⟩);exact⟨h1,h2,by rw[h3,←d2];simp[WV]⟩
 obtain⟨k,hk⟩:∃k,b.length=k+2:=⟨b.length-2,ac⟩;have ha:k+2<=a.length:=by
  rcases j5 a.length (k+2) with h|h
  . exact absurd (oy (b:=wB) ak oa ob nb ac) hlt
  . exact h
 obtain⟨s,hs⟩:∃s,s=64-eO b[((b.length:Int)-1).toNat]! := ⟨_,rfl⟩;have gt:=cG ob (i:=((b.length:Int)-1).toNat) ac;have q289:=fun h=>C.rX b[((b.length:Int)-1).toNat]! h gt
 rw[←hs]at q289;rw[show ((b.length:Int)-1).toNat=k+1 by omega]at hs;have s63:s<=63:=by
  have t0:=ox nb ac;rw[show b.length-1=k+1 by omega]at t0;have gt:=cG ob (i:=k+1) ac;have:=(vM (x:=b[k+1]!) ac).1;omega
 obtain⟨rb,⟨lrb,orb,vrb⟩,h290b⟩:=II (c1:=c2) C.ft b ob ac s s63 [];obtain⟨_,htop,V,Y,eV,lV,oV,vV,tV⟩:=UA hk ob nb hs ac orb vrb;obtain⟨U0,⟨lU0,oU0,vU0⟩,h290a⟩:=II (c1:=c1) C.ft a oa ac s s63 [some (.cells (aq (V++Y)) 274)];have q290b:CT M (.fn (.func 290) [] []) [.vs (aq b) b.length c2,.iV s] [] ⟨.sl 0 0 (b.length+1) 1 (some (b.length+1)),[some (.cells (aq (V++Y)) 274)],[]⟩:=by
  rw[←eV];exact CT.run (fi:=[]) (ca:=[]) (C.sc _ _) h290b
 have q288b:CT M (.fn (.func 288) [] []) [.sl 0 0 (b.length+1) 1 (some (b.length+1))] [some (.cells (aq (V++Y)) 274)] ⟨.sl 0 0 (k+2) 1 (some (b.length+1)),[some (.cells (aq (V++Y)) 274)],[]⟩:=by
  have:=C.lO (cap:=some (b.length+1)) (b:=0) (n:=b.length+1) (L:=V++Y) (e:=274) (hp:=[some (.cells (aq (V++Y)) 274)]) rfl (by rw[←eV];omega) ac (fun c hc=>by cases hc;exact ba _);rw[←eV,show b.length+1=k+3 by omega,htop,←show b.length+1=k+3 by omega,eV]at this;exact this
 have q290a:CT M (.fn (.func 290) [] []) [.vs (aq a) a.length c1,.iV s] [some (.cells (aq (V++Y)) 274)] ⟨.sl 1 0 (a.length+1) 1 (some (a.length+1)),[some (.cells (aq (V++Y)) 274),some (.cells (aq U0) 274)],[]⟩:=CT.run (fi:=[]) (ca:=[]) (C.sc _ _) h290a;repeat' first|apply aaK|apply aa|apply aaI|apply aaC|apply acu|apply acn|(apply acj;rfl)|(apply acE;rfl;rfl)|(apply adw;rfl;rfl)|(apply adz;rfl;rfl;omega)|(apply aeR;rfl;rfl;omega)|(apply acq;rfl;rfl;first|exact q286 _|exact q289 _)|(apply afp;rfl;rfl;first|exact q290b|exact q288b|exact q290a)|(apply afb;rfl;rfl;omega)|(apply afL;rfl;rfl;omega)|(apply afo;rfl;exact fun _=>rfl;(first|omega|(simp only[aL];omega)|(simp;omega));decide;rfl;case ia=>infer_instance)|(apply abx;rfl;rfl)|(apply abO;rfl;rfl)|(intro _;omega)|intro _
 all_goals try omega
 rw[show ((a.length:Int)-((k+2:Nat):Int)+1).toNat=a.length+1-(k+2) by omega];have hup:=UB ha oa hk ob nb lU0 oU0 vU0;rw[←vV]at hup;refine Ux (cv:=some (b.length+1)) (cap:=some (a.length+1-(k+2))) C.toCu (k:=k) (N:=a.length+1) (V:=V) (Y:=Y) (U0:=U0) ac ac lV oV tV lU0 oU0 hup _ _ _ _ _ _ _ _ _ _ _ _ _ (fun U L lo wr lU oU lL oL hv hlU=>?_) _ ac;repeat' first|apply aaK|apply aa|apply aaI|apply aaC|apply acu|apply bk|(apply abO;rfl;rfl)
 refine Uz (k:=k) (N:=a.length+1) (s:=s) s63 ac ac lU oU _ _ _ _ _ _ _ _ _ _ _ _ _ (fun D aD lo wr lD oD hD=>?_);have q1:CT M (.fn (.func 288) [] []) [.sl 2 0 (a.length+1-(k+2)) 1 (some (a.length+1-(k+2)))] [some (.cells (aq (V++Y)) 274),some (.cells (aq D) 274),some (.cells (aq L) 274)] ⟨bY 2 (aX (L.take (a.length+1-(k+2)))) (some (a.length+1-(k+2))),[some (.cells (aq (V++Y)) 274),some (.cells (aq D) 274),some (.cells (aq L) 274)],[]⟩:=C.lO (cap:=some (a.length+1-(k+2))) rfl ac ac (fun c hc=>by cases hc;exact ba _);have q2:CT M (.fn (.func 288) [] []) [.sl 1 0 (k+2) 1 (some (a.length+1))] [some (.cells (aq (V++Y)) 274),some (.cells (aq D) 274),some (.cells (aq L) 274)] ⟨bY 1 (aX (D.take (k+2))) (some (a.length+1)),[some (.cells (aq (V++Y)) 274),some (.cells (aq D) 274),some (.cells (aq L) 274)],[]⟩:=C.lO (cap:=some (a.length+1)) rfl ac ac (fun c hc=>by cases hc;omega);repeat' first|(apply agy (r:=k+2) (k:=.i64);rfl;rfl;omega;omega;(intro c hc;cases hc;exact ba _))|(apply agt;rfl;rfl;rfl;first|exact q1|exact q2)|apply aaK|apply aa|apply aaC|apply abZ|apply bk|apply adJ|apply adY|(apply aez;rfl)|(apply abx;rfl;rfl)|(apply abO;rfl;rfl)
 have hout:=kQ.trim (d1:=some (a.length+1-(k+2))) (d2:=some (a.length+1)) (b1:=2) (b2:=1) (L1:=L) (L2:=D) (e1:=274) (e2:=274) (hp:=[some (.cells (aq (V++Y)) 274),some (.cells (aq D) 274),some (.cells (aq L) 274)]) (n1:=a.length+1-(k+2)) (n2:=k+2) rfl ac rfl ac;have hp2:=b6 (n:=2) (m:=s) ak;rw[vU0,vV]at hv;rw[vV]at hlU;obtain⟨d1,d2⟩:=IT hp2 hv (cK ak oU) hlU;have lt:=dM (b:=wB) ak oV;rw[lV,vV]at lt;have hr:=UC ac oU ac d2 s63 hD;refine⟨.inr rfl,rfl,_,rfl,_,_,?_,?_,hout⟩
 . rw[vY,aR (show L.length<=a.length+1-(k+2) by omega)];obtain⟨h1,h2,h3⟩:=mR oL;exact⟨h1,h2,by rw[h3,d1]⟩
 . rw[vY];obtain⟨h1,h2,h3⟩:=mR (ee oD (k+2));exact⟨h1,h2,by rw[h3,hr]⟩
theorem UE (hft:M.FT=FT)(b:List Int)(_ob:okW wB b)(_nb:aU b)(_hb:b≠[])(q286:∀h,M.ext 286 [.ab,.vs (aq b) b.length c2] h=some ⟨.iV (-1),h,[]⟩):sd M 220 [.ab,.vs (aq b) b.length c2] 0 (WV wB b):=by
 refine IP (by rw[hft];exact Ir) am ?_;unfold Ci;simp only[enter];repeat' first|apply aaK|apply aa|apply aaI|apply aaC|apply abZ|apply aP|(apply ack;rfl)|(apply acE;rfl;rfl)|(apply acq;rfl;rfl;first|exact q286 _)|(apply abx;rfl;rfl)|(apply abO;rfl;rfl)|(intro _;omega)|intro _
 all_goals try omega
 refine⟨.inr rfl,rfl,_,rfl,[],[],⟨iU,kl,by simp[WV]⟩,⟨iU,kl,by simp[WV]⟩,aT [.ab,.ab],.ab,.ab,.same rfl,rfl,rfl,.inr ⟨rfl,rfl⟩,.inr ⟨rfl,rfl⟩⟩
theorem Cv {h:ae}(l:List Int):rL h (aq l):=vd (fun _=>.cons (.atom rfl) .nil) l
theorem dN.gG {h:ae}{x:AV}{l:List Int}(hx:dN x l):dx h x (.vs (aq l) l.length none):=by
 rcases hx with rfl|⟨rfl,rfl⟩
 . exact dx.pW (Cv l)
 . exact .nil
def al (x:Int):Int:=if x<0 then -x else x
inductive aN:AV->Int->Prop
 | small {s:Int} (h : -9223372036854775808<=s/\s<9223372036854775808):aN (.agg [.int .i64 s,.ab]) s
 | fQ {σ z:Int} {w:List Int} (hs:σ=1\/σ = -1) (ok:okW wB w) (nr:aU w) (hw:9223372036854775808<=WV wB w) (hz:z=σ*WV wB w):aN (.agg [.int .i64 σ,.vs (aq w) w.length none]) z
def fw (v:AV)(hh:ae)(v0:AV):Prop:=∃v1,fG hh v v1/\v1.top=0/\bR v1=v0
def dj (M:az)(g:Nat)(ars:List AV)(v0:AV):Prop:=∃v hh,fw v hh v0/\bg M g ars [] ⟨v,hh,[]⟩
theorem ko {f N:Nat}{aV:List Nat}{res:List fK}{body:ao}{ars:List AV}{v0:AV}(hft:M.FT f=some ⟨N,aV,res,body⟩)(hN:ars.length<=N)
 (h:W M body ⟨⟨aV.map (fun t=>(ars[t]?).getD cV),[],[],[]⟩,[]⟩ fun e s=>(e = .normal\/e = .ret)/\s.s.cF=[]/\∃vs,dU s.s res=some vs/\fw (aT vs) (if (aT vs).top<=0 then [] else s.s.hp) v0):dj M f ars v0:=by
 obtain⟨v,hh,ho,h2⟩:=iL (P:=fun v hh=>fw v hh v0) hft hN h;exact⟨v,hh,ho,h2⟩
theorem fw.same {v v0:AV}{hh:ae}(ht:v.top=0)(hc:bR v=v0):fw v hh v0:=⟨v,.same ht,ht,hc⟩
theorem UF (hft:M.FT=FT)(s:Int)(hs : -9223372036854775808<=s/\s<9223372036854775808):bg M 260 [.iV s] [] ⟨.uV (al s),[],[]⟩:=by
 refine bU (by rw[hft];exact TA) am ?_;unfold Iv;simp only[enter];by_cases h:s<0
 . have e:al s = -s:=if_pos h;rw[e];by_cases h2:s = -9223372036854775808
   . subst h2;repeat' first|apply aaK|apply aa|apply aaI|apply aaC|apply abZ|apply aP|(apply ack;rfl)|(apply acE;rfl;rfl)|(apply abx;rfl;rfl)|(apply abO;rfl;rfl)|(intro _;omega)|intro _
     all_goals try omega
     exact⟨.inr rfl,rfl,_,rfl,rfl,rfl⟩
   . repeat' first|apply aaK|apply aa|apply aaI|apply aaC|apply abZ|apply aP|(apply ack;rfl)|(apply acE;rfl;rfl)|(apply agc;rfl;omega)|(apply afZ;rfl;omega)|(apply abx;rfl;rfl)|(apply abO;rfl;rfl)|(intro _;omega)|intro _
     all_goals try omega
     exact⟨.inr rfl,rfl,_,rfl,rfl,rfl⟩
 . have e:al s=s:=if_neg h;rw[e];repeat' first|apply aaK|apply aa|apply aaI|apply aaC|apply abZ|apply acn|(apply acj;rfl)|(apply acE;rfl;rfl)|(apply agc;rfl;omega)|(apply abx;rfl;rfl)|(apply abO;rfl;rfl)|(intro _;omega)|intro _
   all_goals try omega
   exact⟨.inr rfl,rfl,_,rfl,rfl,rfl⟩
theorem IU {x:Int}{b:Nat}{e:TypeId}{hh:ae}{c:Option Nat}(hb:hh.at b=some (.cells (aq [x]) e)):fG hh (.sl b 0 1 1 c) (.vs (aq [x]) 1 none):=
 .sl (m:=aq [x]) hb rfl rfl fun i y z hy hz=>by
  rw[hy]at hz;cases hz;exact .same (dg (iz _) hy)
theorem UG (hft:M.FT=FT)(sf:∀s h,(-9223372036854775808<=s/\s<9223372036854775808)->M.ext 260 [.iV s] h=some ⟨.uV (al s),h,[]⟩){v:AV}{z:Int}(hv:aN v z) :
 ∃x l,dN x l/\okW wB l/\aU l/\WV wB l=al z/\dj M 219 [v] (.ay [.bool (decide (z<0)),x]):=by
 cases hv with
 | small h=>
  by_cases h0:z=0
  . subst h0;refine⟨.ab,[],.inr ⟨rfl,rfl⟩,iU,kl,rfl,?_⟩;refine ko (by rw[hft];exact Ck) am ?_;unfold vC;simp only[enter];repeat' first|apply aaK|apply aa|apply aaI|apply aaC|apply acu|apply abZ|apply aP|apply bH|(apply ack;rfl)|(apply acj;rfl)|(apply adw;rfl;rfl)|(apply acH;rfl;rfl;rfl)|(apply acv;rfl;rfl;rfl)|(apply abx;rfl;rfl)|(apply abO;rfl;rfl)|(intro _;omega)|intro _
    all_goals try omega
    exact⟨.inr rfl,rfl,_,rfl,.same rfl rfl⟩
  . have gz:0<al z/\al z<18446744073709551616:=by unfold al;split <;> omega
    have ok:okW wB [al z]:=fun x hx=>by rw[f6.1 hx];exact⟨ac,gz.2⟩
    refine⟨.vs (aq [al z]) 1 none,[al z],.inl rfl,ok,(rV am).2 (by show al z≠0;omega),by simp[WV],?_⟩;refine ko (by rw[hft];exact Ck) am ?_;have q260:=fun h'=>sf z h' h
    unfold vC;simp only[enter];by_cases hn:z<0
    . rw[decide_eq_true hn];repeat' first|(apply adA;rfl;rfl;(first|(simp only[nca];rfl)|rfl);first|exact q260 _)|apply aaK|apply aa|apply aaI|apply aaC|apply acu|apply abZ|apply acn|apply bc|apply adJ|apply adY|(apply aez;rfl)|(apply aeu;rfl;rfl;(first|(simp only[nca];rfl)|rfl))|(apply afd;rfl)|(apply acj;rfl)|(apply acE;rfl;rfl)|(apply adw;rfl;rfl)|(apply acH;rfl;rfl;rfl)|(apply acv;rfl;rfl;rfl)|(apply abx;rfl;rfl)|(apply abO;rfl;rfl)|(intro _;omega)|intro _
      all_goals try omega
      refine⟨.inr rfl,rfl,_,rfl,.ay [.bool true,.vs (aq [al z]) 1 none],.ay rfl (fun i a b ha hb=>?_),by simp[AV.top,bG,iz],by simp[bR,da,lS]⟩;match i with
      | 0=>cases ha;cases hb;exact .same rfl
      | 1=>cases ha;cases hb;exact IU rfl
      | i+2=>cases ha
    . rw[decide_eq_false hn];repeat' first|(apply adA;rfl;rfl;(first|(simp only[nca];rfl)|rfl);first|exact q260 _)|apply aaK|apply aa|apply aaI|apply aaC|apply acu|apply abZ|apply acn|apply bc|apply adJ|apply adY|(apply aez;rfl)|(apply aeu;rfl;rfl;(first|(simp only[nca];rfl)|rfl))|(apply afd;rfl)|(apply acj;rfl)|(apply acE;rfl;rfl)|(apply adw;rfl;rfl)|(apply acH;rfl;rfl;rfl)|(apply acv;rfl;rfl;rfl)|(apply abx;rfl;rfl)|(apply abO;rfl;rfl)|(intro _;omega)|intro _
      all_goals try omega
      refine⟨.inr rfl,rfl,_,rfl,.ay [.bool false,.vs (aq [al z]) 1 none],.ay rfl (fun i a b ha hb=>?_),by simp[AV.top,bG,iz],by simp[bR,da,lS]⟩;match i with
      | 0=>cases ha;cases hb;exact .same rfl
      | 1=>cases ha;cases hb;exact IU rfl
      | i+2=>cases ha
 | @fQ σ z w hs ok nr hw hz=>
  refine⟨.vs (aq w) w.length none,w,.inl rfl,ok,nr,?_,?_⟩
  . subst hz;unfold al;rcases hs with rfl|rfl
    . rw[if_neg ac];omega
    . rw[if_pos ac];omega
  cases w with
  | nil=>simp[WV]at hw
  | cons y w=>
  refine ko (by rw[hft];exact Ck) am ?_;unfold vC;simp only[enter];rcases hs with rfl|rfl
  . have e:¬z<0:=by omega
    rw[decide_eq_false e];repeat' first|apply aaK|apply aa|apply aaI|apply aaC|apply acu|apply abZ|apply aP|apply bH|(apply aeW;rfl)|(apply ack;rfl)|(apply acE;rfl;rfl)|(apply acH;rfl;rfl;rfl)|(apply acv;rfl;rfl;rfl)|(apply abx;rfl;rfl)|(apply abO;rfl;rfl)|(intro _;omega)|intro _
    all_goals try omega
    exact⟨.inr rfl,rfl,_,rfl,.same (by simp[aT,AV.top,bG,iz]) (by simp[aT,bR,da,lS])⟩
  . have e:z<0:=by omega
    rw[decide_eq_true e];repeat' first|apply aaK|apply aa|apply aaI|apply aaC|apply acu|apply abZ|apply aP|apply bH|(apply aeW;rfl)|(apply ack;rfl)|(apply acE;rfl;rfl)|(apply acH;rfl;rfl;rfl)|(apply acv;rfl;rfl;rfl)|(apply abx;rfl;rfl)|(apply abO;rfl;rfl)|(intro _;omega)|intro _
    all_goals try omega
    exact⟨.inr rfl,rfl,_,rfl,.same (by simp[aT,AV.top,bG,iz]) (by simp[aT,bR,da,lS])⟩
def gA (neg:Bool)(n:Int):Int:=if neg then -n else n
theorem Cw {σ:Int}{l:List Int}{hh:ae}:fw (aT [.agg [.iV σ,.vs (aq l) l.length none]]) hh (.agg [.iV σ,.vs (aq l) l.length none]):=.same (by simp[aT,AV.top,bG,iz]) (by simp[aT,bR,da,lS])
theorem UH (hft:M.FT=FT)(neg:Bool){x:AV}{l:List Int}(hx:dN x l)(ok:okW wB l)(nr:aU l)(hl:l.length<1000000000):∃v0,aN v0 (gA neg (WV wB l))/\dj M 261 [.bool neg,x] v0:=by
 rcases hx with rfl|⟨rfl,rfl⟩
 . by_cases h0:l.length=0
   . refine⟨.agg [.iV 0,.ab],?_,?_⟩
     . have:gA neg (WV wB l)=0:=by rw[gT h0];cases neg <;> rfl
       rw[this];exact .small ak
     refine ko (by rw[hft];exact rT) am ?_;unfold ql;simp only[enter];repeat' first|apply aaK|apply aa|apply aaI|apply aaC|apply acu|apply abZ|apply aP|apply bH|(apply ack;rfl)|(apply adw;rfl;rfl)|(apply afu;rfl;rfl;exact⟨rfl,by first|exact ba _|decide|(simp[overwrite]),rfl⟩;rfl)|(apply acv;rfl;rfl;rfl)|(apply abx;rfl;rfl)|(intro _;omega)|intro _
     all_goals try omega
     exact⟨.inr rfl,rfl,_,rfl,.same rfl rfl⟩
   by_cases h1:l.length=1
   . obtain⟨y,hy⟩:∃y,y=l[(0:Int).toNat]! := ⟨_,rfl⟩;have gy:=cG ok (i:=0) ac;rw[show l[0]! = y from hy.symm]at gy;have gy:0<=y/\y<18446744073709551616:=gy;have ev:WV wB l=y:=by
      have:=km (b:=wB) (l:=l) (n:=0) ac;rw[show l[0]! = y from hy.symm]at this;simpa[WV] using this
     by_cases h:y<=9223372036854775807
     . refine⟨.agg [.iV (gA neg y),.ab],by rw[ev];exact .small (by unfold gA;split <;> omega),?_⟩;refine ko (by rw[hft];exact rT) am ?_;unfold ql;simp only[enter];rw[hy]at h gy ⊢;cases neg
       . repeat' first|(apply afP;rfl;omega)|apply aaK|apply aa|apply aaI|apply aaC|apply acu|apply abZ|apply aP|apply bH|(apply ack;rfl)|(apply acj;rfl)|(apply adx;rfl)|(apply afK;rfl;rfl)|(apply adw;rfl;rfl)|(apply acJ;rfl;rfl)|(apply afu;rfl;rfl;exact⟨rfl,by first|exact ba _|decide|(simp[overwrite]),rfl⟩;rfl)|(apply afb;rfl;rfl;omega)|(apply afo;rfl;exact fun _=>rfl;(first|omega|(simp only[aL];omega)|(simp;omega));decide;rfl;case ia=>infer_instance)|(apply acv;rfl;rfl;rfl)|(apply abx;rfl;rfl)|(intro _;omega)|intro _
         all_goals try omega
         exact⟨.inr rfl,rfl,_,rfl,.same rfl rfl⟩
       . repeat' first|(apply afP;rfl;omega)|(apply afZ;rfl;omega)|apply aaK|apply aa|apply aaI|apply aaC|apply acu|apply abZ|apply aP|apply bH|(apply ack;rfl)|(apply acj;rfl)|(apply adx;rfl)|(apply afK;rfl;rfl)|(apply adw;rfl;rfl)|(apply acJ;rfl;rfl)|(apply afu;rfl;rfl;exact⟨rfl,by first|exact ba _|decide|(simp[overwrite]),rfl⟩;rfl)|(apply afb;rfl;rfl;omega)|(apply afo;rfl;exact fun _=>rfl;(first|omega|(simp only[aL];omega)|(simp;omega));decide;rfl;case ia=>infer_instance)|(apply acv;rfl;rfl;rfl)|(apply abx;rfl;rfl)|(intro _;omega)|intro _
         all_goals try omega
         exact⟨.inr rfl,rfl,_,rfl,.same rfl rfl⟩
     . refine⟨.agg [.iV (gA neg 1),.vs (aq l) l.length none],.fQ (w:=l) (by cases neg;exact .inl rfl;exact .inr rfl) ok nr (by rw[ev];omega) (by cases neg <;> simp[gA]),?_⟩;refine ko (by rw[hft];exact rT) am ?_;unfold ql;simp only[enter];rw[hy]at h gy;cases neg;all_goals
       . repeat' first|apply aaK|apply aa|apply aaI|apply aaC|apply acu|apply abZ|apply acn|apply aP|apply bc|apply bH|(apply ack;rfl)|(apply acj;rfl)|(apply adx;rfl)|(apply aeU;rfl)|(apply afK;rfl;rfl)|(apply adw;rfl;rfl)|(apply acJ;rfl;rfl)|(apply adt;rfl;rfl)|(apply afu;rfl;rfl;exact⟨rfl,by first|exact ba _|decide|(simp[overwrite]),rfl⟩;rfl)|(apply afb;rfl;rfl;omega)|(apply afo;rfl;exact fun _=>rfl;(first|omega|(simp only[aL];omega)|(simp;omega));decide;rfl;case ia=>infer_instance)|(apply acv;rfl;rfl;rfl)|(apply abx;rfl;rfl)|(intro _;omega)|intro _
         all_goals try omega
         exact⟨.inr rfl,rfl,_,rfl,Cw⟩
   have h2:9223372036854775808<=WV wB l:=by
    have h:=qm (b:=wB) ak ok nr ac;have h2:=iy (b:=wB) ak (m:=1) (n:=l.length-1) ac;have h3:wB^1=18446744073709551616:=rfl;omega
   refine⟨.agg [.iV (gA neg 1),.vs (aq l) l.length none],.fQ (w:=l) (by cases neg;exact .inl rfl;exact .inr rfl) ok nr h2 (by cases neg <;> simp[gA]),?_⟩;refine ko (by rw[hft];exact rT) am ?_;unfold ql;simp only[enter];cases neg;all_goals
   . repeat' first|apply aaK|apply aa|apply aaI|apply aaC|apply acu|apply abZ|apply acn|apply aP|apply bc|apply bH|(apply ack;rfl)|(apply acj;rfl)|(apply aeU;rfl)|(apply adw;rfl;rfl)|(apply adt;rfl;rfl)|(apply afu;rfl;rfl;exact⟨rfl,by first|exact ba _|decide|(simp[overwrite]),rfl⟩;rfl)|(apply acv;rfl;rfl;rfl)|(apply abx;rfl;rfl)|(intro _;omega)|intro _
     all_goals try omega
     exact⟨.inr rfl,rfl,_,rfl,Cw⟩
 . refine⟨.agg [.iV 0,.ab],?_,?_⟩
   . have:gA neg (WV wB [])=0:=by cases neg <;> rfl
     rw[this];exact .small ak
   refine ko (by rw[hft];exact rT) am ?_;unfold ql;simp only[enter];cases neg;all_goals
   . repeat' first|apply aaK|apply aa|apply aaI|apply aaC|apply acu|apply abZ|apply aP|apply bH|(apply ack;rfl)|(apply adw;rfl;rfl)|(apply afu;rfl;rfl;exact⟨rfl,by first|exact ba _|decide|(simp[overwrite]),rfl⟩;rfl)|(apply acv;rfl;rfl;rfl)|(apply abx;rfl;rfl)|(intro _;omega)|intro _
     all_goals try omega
     exact⟨.inr rfl,rfl,_,rfl,.same rfl rfl⟩
set_option maxRecDepth 1000000
def vZ:ao:=zR [zx 1 171 2 0,⟨.p 2,.alloc 171 [.iV (0),.ab],none⟩] (.seq (zR [zf 5 1 1,zd 6 1 5,⟨.l 7,.eq false (.ref .slice) (.l 6) (.c (.ab)),none⟩,zn 8 7,zg (zf 9 0 1) 8 true,zg (zd 10 1 9) 8 true,zg (zc 11 .neq 10 (-9223372036854775808)) 8 true,zp 12 8 11] (.cond (.l 12) (zR [zf 13 0 1,zd 14 1 13,⟨.l 15,.un .neg (.l 14),none⟩,⟨.l 16,.build [.iV (0),.ab] [(0,1,(.l 15))],none⟩,zs 2 2 16] (.ret)) (.skip))) (zR [zt 18 2 1,z1 19 219 18,zn 17 19,ze 20 0 17,ze 21 1 17,zw 3 20,zw 4 21] (zR [zm 22 3,zu 23 22,zm 24 4,z2 25 261 23 24,zs 2 2 25] (.ret))))
theorem IV:FT 201=some ⟨26,[0,1,2,3,4],[.cell 2 true (.p 2)],vZ⟩:=by kernel_rfl
def Cy:ao:=zR [zx 1 171 2 0,⟨.p 2,.alloc 171 [.iV (0),.ab],none⟩] (.seq (zR [zf 3 0 1,zd 4 1 3,zc 5 .lss 4 0] (.cond (.l 5) (zR [zt 6 2 1,z1 7 201 6,zs 2 2 7] (.ret)) (.skip))) (zR [zt 8 2 1,zs 2 2 8] (.ret)))
theorem IW:FT 298=some ⟨9,[0,1,2],[.cell 2 true (.p 2)],Cy⟩:=by kernel_rfl
def Cz:ao:=zR [zx 1 171 2 0,zi 2 0] (zR [zf 3 0 1,zd 4 1 3,⟨.l 5,.mm false [(kI 1),(.l 4)],none⟩,⟨.l 6,.mm true [(kI (-1)),(.l 5)],none⟩,zw 2 6] (.ret))
theorem UI:FT 230=some ⟨7,[0,1,2],[.var (.p 2)],Cz⟩:=by kernel_rfl
def qs:ao:=zR [zx 2 171 2 0,zx 3 171 2 1,⟨.p 4,.alloc 171 [.iV (0),.ab],none⟩] (.seq (zR [zf 10 1 2,zd 11 1 10,⟨.l 12,.eq false (.ref .slice) (.l 11) (.c (.ab)),none⟩,zn 13 12,zg (zf 14 1 3) 13 true,zg (zd 15 1 14) 13 true,⟨.l 16,.eq false (.ref .slice) (.l 15) (.c (.ab)),some ((.l 13),true)⟩,zp 17 13 16] (.cond (.l 17) (zR [zf 18 0 2,zd 19 1 18,zf 20 0 3,zd 21 1 20,zb 22 .add 19 21,zw 5 22] (zR [zm 23 5,zf 24 0 2,zd 25 1 24,zb 26 .gtr 23 25,zf 27 0 3,zd 28 1 27,zc 29 .gtr 28 0,⟨.l 30,.eq false .bool (.l 26) (.l 29),none⟩] (.cond (.l 30) (zR [zm 31 5,⟨.l 32,.build [.iV (0),.ab] [(0,1,(.l 31))],none⟩,zs 2 4 32] (.ret)) (.skip)))) (.skip))) (zR [zt 34 2 2,z1 35 219 34,zn 33 35,ze 36 0 33,ze 37 1 33,zw 6 36,zw 7 37] (zR [zt 39 2 3,z1 40 219 39,zn 38 40,ze 41 0 38,ze 42 1 38,zw 8 41,zw 9 42] (.seq (.block 0 (zR [zm 44 6,zm 45 8,⟨.l 46,.eq false .bool (.l 44) (.l 45),none⟩,zn 43 46] (.cond (.l 43) (zR [zm 47 6,zm 48 7,zm 49 9,z2 50 308 48 49,z2 51 261 47 50,zs 2 4 51] (.ret)) (zR [zm 53 7,zm 54 9,z2 55 286 53 54,zc 56 .geq 55 0,zn 52 56] (.cond (.l 52) (zR [zm 57 6,zm 58 7,zm 59 9,z2 60 309 58 59,z2 61 261 57 60,zs 2 4 61] (.ret)) (.skip)))))) (zR [zm 62 8,zm 63 9,zm 64 7,z2 65 309 63 64,z2 66 261 62 65,zs 2 4 66] (.ret))))))
theorem sh:FT 253=some ⟨67,[0,1,2,3,4,5,6,7,8,9],[.cell 2 true (.p 4)],qs⟩:=by kernel_rfl
def IX:ao:=zR [zx 2 171 2 0,zx 3 171 2 1,⟨.p 4,.alloc 171 [.iV (0),.ab],none⟩] (.seq (.draw [(zt 5 2 2,[]),(zt 6 2 3,[0]),(z1 7 201 6,[0]),(z2 8 253 5 7,[]),(zs 2 4 8,[])]) (.ret))
theorem UJ:FT 263=some ⟨9,[0,1,2,3,4],[.cell 2 true (.p 4)],IX⟩:=by kernel_rfl
def IY:ao:=zR [zx 2 171 2 0,zx 3 171 2 1,zi 4 0] (.seq (zR [zf 5 1 2,zd 6 1 5,⟨.l 7,.eq false (.ref .slice) (.l 6) (.c (.ab)),none⟩,zn 8 7,zg (zf 9 1 3) 8 true,zg (zd 10 1 9) 8 true,⟨.l 11,.eq false (.ref .slice) (.l 10) (.c (.ab)),some ((.l 8),true)⟩,zp 12 8 11] (.cond (.l 12) (.seq (.block 0 (zR [zf 14 0 2,zd 15 1 14,zf 16 0 3,zd 17 1 16,zb 18 .lss 15 17,zn 13 18] (.cond (.l 13) (zR [zi 4 (-1)] (.ret)) (zR [zf 20 0 2,zd 21 1 20,zf 22 0 3,zd 23 1 22,zb 24 .gtr 21 23,zn 19 24] (.cond (.l 19) (zR [zi 4 1] (.ret)) (.skip)))))) (zR [zi 4 0] (.ret))) (.skip))) (zR [zt 25 2 2,zt 26 2 3,z2 27 263 25 26,z1 28 230 27,zw 4 28] (.ret)))
theorem UK:FT 200=some ⟨29,[0,1,2,3,4],[.var (.p 4)],IY⟩:=by kernel_rfl
def qt:ao:=zR [zx 2 171 2 0,zx 3 171 2 1,⟨.p 4,.alloc 171 [.iV (0),.ab],none⟩] (.seq (zR [zf 11 1 2,zd 12 1 11,⟨.l 13,.eq false (.ref .slice) (.l 12) (.c (.ab)),none⟩,zn 14 13,zg (zf 15 1 3) 14 true,zg (zd 16 1 15) 14 true,⟨.l 17,.eq false (.ref .slice) (.l 16) (.c (.ab)),some ((.l 14),true)⟩,zp 18 14 17] (.cond (.l 18) (.seq (.draw [(zf 20 0 2,[]),(zd 21 1 20,[]),(z1 22 260 21,[]),(zf 23 0 3,[0,1,2]),(zd 24 1 23,[0,1,2]),(z1 25 260 24,[]),(z2 26 259 22 25,[]),(zn 19 26,[]),(ze 27 0 19,[]),(ze 28 1 19,[8]),(zw 5 27,[9]),(zw 6 28,[])]) (zR [zm 29 5,⟨.l 30,.bin .eql (.l 29) (kU 0),none⟩,zn 31 30,zg (zm 32 6) 31 true,⟨.l 33,.bin .leq (.l 32) (kU 9223372036854775807),some ((.l 31),true)⟩,zp 34 31 33] (.cond (.l 34) (.seq (zR [zf 35 0 2,zd 36 1 35,zc 37 .lss 36 0,zf 38 0 3,zd 39 1 38,zc 40 .lss 39 0,⟨.l 41,.eq true .bool (.l 37) (.l 40),none⟩] (.cond (.l 41) (zR [zm 42 6,⟨.l 43,.im .i64 (.l 42),none⟩,⟨.l 44,.un .neg (.l 43),none⟩,⟨.l 45,.build [.iV (0),.ab] [(0,1,(.l 44))],none⟩,zs 2 4 45] (.ret)) (.skip))) (zR [zm 46 6,⟨.l 47,.im .i64 (.l 46),none⟩,⟨.l 48,.build [.iV (0),.ab] [(0,1,(.l 47))],none⟩,zs 2 4 48] (.ret))) (.skip)))) (.skip))) (zR [zt 50 2 2,z1 51 219 50,zn 49 51,ze 52 0 49,ze 53 1 49,zw 7 52,zw 8 53] (zR [zt 55 2 3,z1 56 219 55,zn 54 56,ze 57 0 54,ze 58 1 54,zw 9 57,zw 10 58] (zR [zm 59 7,zm 60 9,⟨.l 61,.eq true .bool (.l 59) (.l 60),none⟩,zm 62 8,zm 63 10,z2 64 262 62 63,z2 65 261 61 64,zs 2 4 65] (.ret)))))
theorem si:FT 199=some ⟨66,[0,1,2,3,4,5,6,7,8,9,10],[.cell 2 true (.p 4)],qt⟩:=by kernel_rfl
def IZ:ao:=zR [⟨.p 1,.alloc 171 [.iV (0),.ab],none⟩] (zR [zm 3 0,⟨.l 4,.build [.iV (0),.ab] [(0,1,(.l 3))],none⟩,zs 2 1 4] (.ret))
theorem UL:FT 196=some ⟨5,[0,2],[.cell 2 true (.p 1)],IZ⟩:=by kernel_rfl
def qu:ao:=zR [zx 2 171 2 0,zx 3 171 2 1,⟨.p 4,.alloc 171 [.iV (0),.ab],none⟩,⟨.p 5,.alloc 171 [.iV (0),.ab],none⟩] (.seq (zR [zf 16 1 2,zd 17 1 16,⟨.l 18,.eq false (.ref .slice) (.l 17) (.c (.ab)),none⟩,zn 19 18,zg (zf 20 1 3) 19 true,zg (zd 21 1 20) 19 true,⟨.l 22,.eq false (.ref .slice) (.l 21) (.c (.ab)),some ((.l 19),true)⟩,zp 23 19 22,zn 24 23,zg (zf 25 0 2) 24 true,zg (zd 26 1 25) 24 true,zg (zc 27 .neq 26 (-9223372036854775808)) 24 true,zp 28 24 27] (.cond (.l 28) (.seq (.draw [(zf 29 0 2,[]),(zd 30 1 29,[]),(zf 31 0 3,[0,1]),(zd 32 1 31,[0,1]),(zb 33 .quo 30 32,[]),(zf 34 0 2,[0,1,2,3,4]),(zd 35 1 34,[0,1,2,3,4]),(zf 36 0 3,[0,1,2,3,4,5,6]),(zd 37 1 36,[0,1,2,3,4,5,6]),(zb 38 .rem 35 37,[0,1,2,3,4]),(zw 6 33,[5,6,7,8,9]),(zw 7 38,[])]) (.seq (zR [zm 39 7,zc 40 .lss 39 0] (.cond (.l 40) (.draw [(zm 41 6,[]),(zc 42 .sub 41 1,[]),(zm 43 7,[0,1]),(zf 44 0 3,[0,1,2]),(zd 45 1 44,[0,1,2]),(zb 46 .add 43 45,[0,1]),(zw 6 42,[2,3,4,5]),(zw 7 46,[])]) (.skip))) (zR [zm 47 6,⟨.l 48,.build [.iV (0),.ab] [(0,1,(.l 47))],none⟩,zm 49 7,⟨.l 50,.build [.iV (0),.ab] [(0,1,(.l 49))],none⟩,zs 2 4 48,zs 2 5 50] (.ret)))) (.skip))) (zR [zt 52 2 2,z1 53 219 52,zn 51 53,ze 54 0 51,ze 55 1 51,zw 8 54,zw 9 55] (zR [zt 57 2 3,z1 58 219 57,zn 56 58,ze 59 0 56,ze 60 1 56,zn 10 59,zw 10 60] (zR [zm 62 9,zm 63 10,z2 64 220 62 63,zn 61 64,ze 65 0 61,ze 66 1 61,zw 11 65,zw 12 66] (zR [zm 67 8,zm 68 11,z2 69 261 67 68,zm 70 8,zm 71 12,z2 72 261 70 71,⟨.p 13,.alloc 171 [.iV (0),.ab],none⟩,⟨.p 14,.alloc 171 [.iV (0),.ab],none⟩,zs 2 13 69,zs 2 14 72] (.seq (zR [zt 73 2 14,z1 74 230 73,zc 75 .lss 74 0] (.cond (.l 75) (.draw [(zt 76 2 13,[]),(⟨.l 77,.call (kF 196) [(kI 1)],none⟩,[0]),(z2 78 263 76 77,[]),(zt 79 2 14,[0,1,2]),(zt 80 2 3,[0,1,2,3]),(z2 81 253 79 80,[]),(zs 2 13 78,[]),(zs 2 14 81,[])]) (.skip))) (.seq (.draw [(zt 82 2 13,[]),(zt 83 2 14,[0]),(zs 2 4 82,[1]),(zs 2 5 83,[])]) (.ret))))))))
theorem sm:FT 299=some ⟨84,[0,1,2,3,4,5,6,7,8,9,11,12,13,14,15],[.cell 2 true (.p 4),.cell 2 true (.p 5)],qu⟩:=by kernel_rfl
def CA:ao:=zR [zx 2 171 2 0,zx 3 171 2 1,⟨.p 4,.alloc 171 [.iV (0),.ab],none⟩] (.seq (zR [zt 7 2 3,z1 8 230 7,zc 9 .lss 8 0] (.cond (.l 9) (.draw [(zt 10 2 2,[]),(z1 11 201 10,[]),(zt 12 2 3,[0,1]),(z1 13 201 12,[]),(zs 2 2 11,[]),(zs 2 3 13,[])]) (.skip))) (zR [zt 15 2 2,zt 16 2 3,z2 17 299 15 16,zn 14 17,ze 18 0 14,ze 19 1 14,⟨.p 5,.alloc 171 [.iV (0),.ab],none⟩,⟨.l 6,.alloc 171 [.iV (0),.ab],none⟩,zs 2 5 18,zS 2 6 19] (zR [zt 20 2 5,zs 2 4 20] (.ret))))
theorem Ja:FT 258=some ⟨21,[0,1,2,3,4,5],[.cell 2 true (.p 4)],CA⟩:=by kernel_rfl
def wc:ao:=.seq (zR [zt 11 2 3,z1 12 230 11,zc 13 .neq 12 0] (.cond (.l 13) (.skip) (.exit 0))) (.block 1 (zR [zt 15 2 2,zt 16 2 3,z2 17 299 15 16,zn 14 17,ze 18 0 14,ze 19 1 14,⟨.l 5,.alloc 171 [.iV (0),.ab],none⟩,⟨.p 5,.alloc 171 [.iV (0),.ab],none⟩,zS 2 5 18,zs 2 5 19] (.draw [(zt 20 2 3,[]),(zt 21 2 5,[0]),(zs 2 2 20,[1]),(zs 2 3 21,[])])))
def Jb:ao:=zR [zx 2 171 2 0,zx 3 171 2 1,⟨.p 4,.alloc 171 [.iV (0),.ab],none⟩] (.seq (.draw [(zt 7 2 2,[]),(z1 8 298 7,[]),(zt 9 2 3,[0,1]),(z1 10 298 9,[]),(zs 2 2 8,[]),(zs 2 3 10,[])]) (.seq (.block 0 (.loop wc)) (zR [zt 22 2 2,zs 2 4 22] (.ret))))
theorem UM:FT 229=some ⟨23,[0,1,2,3,4,6],[.cell 2 true (.p 4)],Jb⟩:=by kernel_rfl
structure CI (M:az)(N:Nat):Prop where
 ft:M.FT=FT
 lN:N<=500000
 sf:∀s h,(-9223372036854775808<=s/\s<9223372036854775808)->M.ext 260 [.iV s] h=some ⟨.uV (al s),h,[]⟩
 oz:∀(x y:Int) h,(0<=x/\x<18446744073709551616)->(0<=y/\y<18446744073709551616)->M.ext 259 [.uV x,.uV y] h=some ⟨.ay [.uV (x*y/18446744073709551616),.uV (x*y%18446744073709551616)],h,[]⟩
 mU:∀v z,aN v z->∃x l,dN x l/\okW wB l/\aU l/\WV wB l=al z/\∀h,M.ext 219 [v] h=some ⟨.ay [.bool (decide (z<0)),x],h,[]⟩
 kp:∀neg x l,dN x l->okW wB l->aU l->l.length<=1000001->∃v0,aN v0 (gA neg (WV wB l))/\∀h,M.ext 261 [.bool neg,x] h=some ⟨v0,h,[]⟩
 Jc:∀x l y m,dN x l->dN y m->okW wB l->okW wB m->l.length<=500000->m.length<=500000->∃r,okW wB r/\aU r/\WV wB r=WV wB l+WV wB m/\∀h,M.ext 308 [x,y] h=some ⟨.vs (aq r) r.length none,h,[]⟩
 CB:∀x l y m,dN x l->dN y m->okW wB l->okW wB m->aU l->aU m->l.length<=500000->m.length<=500000->WV wB m<=WV wB l->∃r,okW wB r/\aU r/\WV wB r=WV wB l-WV wB m/\∀h,M.ext 309 [x,y] h=some ⟨.vs (aq r) r.length none,h,[]⟩
 Jd:∀x l y m,dN x l->dN y m->okW wB l->okW wB m->l.length<=500000->m.length<=500000->∃r,okW wB r/\aU r/\WV wB r=WV wB l*WV wB m/\∀h,M.ext 262 [x,y] h=some ⟨.vs (aq r) r.length none,h,[]⟩
 se:∀x l y m,dN x l->dN y m->okW wB l->okW wB m->aU l->aU m->l.length<=500000->m.length<=500000->∀h,M.ext 286 [x,y] h=some ⟨.iV (bB (WV wB l-WV wB m)),h,[]⟩
theorem aN.out {v:AV}{z:Int}{hh:ae}(h:aN v z):fw (aT [v]) hh v:=by
 cases h with
 | small=>exact .same rfl rfl
 | fQ=>exact Cw
variable {N:Nat}
theorem CI.len (C:CI M N){z:Int}{l:List Int}(ok:okW wB l)(nr:aU l)(hv:WV wB l=al z)(hz:al z<wB^N):l.length<=500000:=
 iQ (gw (b:=wB) ak ok nr (by rw[hv];exact hz)) C.lN
theorem UN (C:CI M N){v:AV}{z:Int}(hv:aN v z)(hz:al z<wB^N):∃v0,aN v0 (-z)/\dj M 201 [v] v0:=by
 obtain⟨x,l,hx,ok,nr,hl,q219⟩:=C.mU v z hv;have len:=C.len ok nr hl hz;obtain⟨v0,h0,q261⟩:=C.kp (!(decide (z<0))) x l hx ok nr ac;have ev:gA (!(decide (z<0))) (WV wB l) = -z:=by
  rw[hl];unfold gA al;by_cases h:z<0
  . simp[h]
  . simp[h]
 rw[ev]at h0;by_cases hsm:(∃s,v = .agg [.iV s,.ab])/\z ≠ -9223372036854775808
 . obtain⟨⟨s,rfl⟩,hne⟩:=hsm;cases hv with
   | small h=>
   refine⟨.agg [.iV (-z),.ab],.small ac,?_⟩;refine ko (by rw[C.ft];exact IV) am ?_;unfold vZ;simp only[enter];repeat' first|apply aaK|apply aa|apply aaI|apply aaC|apply abZ|apply aP|(apply ack;rfl)|(apply adx;rfl)|(apply adH;rfl;rfl)|(apply acJ;rfl;rfl)|(apply afu;rfl;rfl;exact⟨rfl,by first|exact ba _|decide|(simp[overwrite]),rfl⟩;rfl)|(apply afq;rfl;(first|(focus((repeat' first|exact cC|assumption|apply cW);done))|exact di am);rfl)|(apply afZ;rfl;omega)|(apply acv;rfl;rfl;rfl)|(apply abx;rfl;rfl)|(intro _;omega)|intro _
   all_goals try omega
   exact⟨.inr rfl,rfl,_,rfl,.same rfl rfl⟩
 . refine⟨v0,h0,ko (by rw[C.ft];exact IV) am ?_⟩;have out:=fun hh=>h0.out (hh:=hh)
   cases hv with
   | small h=>
    have hz:z = -9223372036854775808:=Decidable.byContradiction fun h'=>hsm ⟨⟨z,rfl⟩,h'⟩
    subst hz;unfold vZ;simp only[enter];cases h0;all_goals
    . repeat' first|apply aaK|apply aa|apply aaI|apply aaC|apply abZ|apply acn|(apply acj;rfl)|(apply adx;rfl)|(apply adH;rfl;rfl)|(apply acJ;rfl;rfl)|(apply acq;rfl;rfl;first|exact q219 _|exact q261 _)|(apply afu;rfl;rfl;exact⟨rfl,by first|exact ba _|decide|(simp[overwrite]),rfl⟩;rfl)|(apply afq;rfl;(first|(focus((repeat' first|exact cC|assumption|apply cW);done))|exact di am);rfl)|(apply acv;rfl;rfl;rfl)|(apply abx;rfl;rfl)|(apply abO;rfl;rfl)|(intro _;omega)|intro _
      all_goals try omega
      all_goals exact⟨.inr rfl,rfl,_,rfl,out _⟩
   | @fQ σ z w hs ok' nr' hw hz'=>
    cases w with
    | nil=>simp[WV]at hw
    | cons y w=>
    unfold vZ;simp only[enter];by_cases hn:z<0
    all_goals
    . simp only[hn,decide_true,decide_false,Bool.not_true,Bool.not_false]at q219 q261;cases h0;all_goals
      . repeat' first|apply aaK|apply aa|apply aaI|apply aaC|apply abZ|apply acn|(apply acj;rfl)|(apply aeU;rfl)|(apply adt;rfl;rfl)|(apply acq;rfl;rfl;first|exact q219 _|exact q261 _)|(apply afu;rfl;rfl;exact⟨rfl,by first|exact ba _|decide|(simp[overwrite]),rfl⟩;rfl)|(apply afq;rfl;(first|(focus((repeat' first|exact cC|assumption|apply cW);done))|exact di am);rfl)|(apply acv;rfl;rfl;rfl)|(apply abx;rfl;rfl)|(apply abO;rfl;rfl)
        all_goals try omega
        all_goals exact⟨.inr rfl,rfl,_,rfl,out _⟩
theorem UO (hft:M.FT=FT){v:AV}{z:Int}(hv:aN v z):bg M 230 [v] [] ⟨.iV (bB z),[],[]⟩:=by
 refine bU (by rw[hft];exact UI) am ?_;have key:∀s:Int,(AV.iV (if (if s<1 then s else 1) > -1 then (if s<1 then s else 1) else -1)) = .iV (bB s):=fun s=>by
  congr 1;unfold bB;by_cases h:s<0
  . rw[if_pos h,if_pos (show s<1 by omega)];split <;> omega
  . rw[if_neg h];by_cases h1:0<s
    . rw[if_pos h1,if_neg (show ¬s<1 by omega)];rfl
    . obtain rfl:s=0:=by omega
      rfl
 cases hv with
 | small h=>
  unfold Cz;simp only[enter];repeat' first|apply aaK|apply aa|apply aaI|apply aaC|apply abZ|(apply acH;rfl;rfl;rfl)|(apply acv;rfl;rfl;rfl)|(apply abx;rfl;rfl)|(apply abO;rfl;rfl)
  exact⟨.inr rfl,rfl,_,rfl,key z,rfl⟩
 | @fQ σ z w hs ok nr hw hz=>
  have e:bB z=σ:=by
   unfold bB;rcases hs with rfl|rfl
   . rw[if_neg ac,if_pos ac]
   . rw[if_pos ac]
  have k:=key σ;rw[show bB σ=bB z by rw[e];rcases hs with rfl|rfl <;> rfl]at k;unfold Cz;simp only[enter];repeat' first|apply aaK|apply aa|apply aaI|apply aaC|apply abZ|(apply acH;rfl;rfl;rfl)|(apply acv;rfl;rfl;rfl)|(apply abx;rfl;rfl)|(apply abO;rfl;rfl)
  exact⟨.inr rfl,rfl,_,rfl,k,rfl⟩
def t253:ao:=
 zR [zt 34 2 2,
      z1 35 219 34,
      zn 33 35,
      ze 36 0 33,
      ze 37 1 33,
      zw 6 36,
      zw 7 37]
    (
     zR [zt 39 2 3,
       z1 40 219 39,
       zn 38 40,
       ze 41 0 38,
       ze 42 1 38,
       zw 8 41,
       zw 9 42]
     (
      .seq (.block 0
       (
        zR [zm 44 6,
          zm 45 8,
          ⟨(.l 46),.eq false .bool (.l 44) (.l 45),none⟩,
          zn 43 46]
        (
         .cond (.l 43)
         (
          zR [zm 47 6,
            zm 48 7,
            zm 49 9,
            z2 50 308 48 49,
            z2 51 261 47 50,
            zs 2 4 51]
          (.ret))
         (
          zR [zm 53 7,
            zm 54 9,
            z2 55 286 53 54,
            zc 56 .geq 55 0,
            zn 52 56]
          (
           .cond (.l 52)
           (
            zR [zm 57 6,
              zm 58 7,
              zm 59 9,
              z2 60 309 58 59,
              z2 61 261 57 60,
              zs 2 4 61]
            (.ret))
           (.skip))))))
      (
       zR [zm 62 8,
         zm 63 9,
         zm 64 7,
         z2 65 309 63 64,
         z2 66 261 62 65,
         zs 2 4 66]
       (.ret))))
theorem UP {l m r:List Int}(C:CI M N)(ok:okW wB r)(nr:aU r)(hr:WV wB r=WV wB l+WV wB m)(hl:WV wB l<wB^N)(hm:WV wB m<wB^N):r.length<=1000001:=by
 have hN:=C.lN;have hp:wB^(N+1)=wB^N*18446744073709551616:=b7 _ _;have hp0:0<wB^N:=b6 ak;exact iQ (gw (b:=wB) ak ok nr (n:=N+1) (by rw[hr,hp];omega)) ac
def lT (v0:AV)(res:List fK)(e:Ex)(s:aw):Prop:=(e = .normal\/e = .ret)/\s.s.cF=[]/\∃vs,dU s.s res=some vs/\fw (aT vs) (if (aT vs).top<=0 then [] else s.s.hp) v0
theorem cI {v0:AV}{res:List fK}{s:aw}{vs:List AV}(hd:s.s.cF=[])(h:dU s.s res=some vs)(ho:fw (aT vs) (if (aT vs).top<=0 then [] else s.s.hp) v0):lT v0 res .ret s:=⟨.inr rfl,hd,vs,h,ho⟩
theorem UQ (C:CI M N){s s' za zb:Int}{wa wb:AV}(ha:aN (.agg [.iV s,wa]) za)(hb:aN (.agg [.iV s',wb]) zb)(lza:al za<wB^N)(lzb:al zb<wB^N) :
 ∃v0,aN v0 (za+zb)/\∀a0 a1 a5 a6 a7 a8 a9 lo wr,W M t253 ⟨⟨[a0,a1,.ptr 0 0,.ptr 1 0,.ptr 2 0,a5,a6,a7,a8,a9],lo,[some (.cells [.iV s,wa] 171),some (.cells [.iV s',wb] 171),some (.cells [.iV 0,.ab] 171)],[]⟩,wr⟩ (lT v0 [.cell 2 true (.p 4)]):=by
 obtain⟨x,l,hx,okl,nrl,vl,q219a⟩:=C.mU _ za ha;obtain⟨y,m,hy,okm,nrm',vm,q219b⟩:=C.mU _ zb hb;have ll:=C.len okl nrl vl lza;have lm:=C.len okm nrm' vm lzb;have l0:=cK (b:=wB) ak okl;have m0:=cK (b:=wB) ak okm;have lN:=C.lN;by_cases hs:decide (za<0)=decide (zb<0)
 . obtain⟨r,okr,nrr,vr,q308⟩:=C.Jc x l y m hx hy okl okm ll lm;obtain⟨v0,h0,q261⟩:=C.kp (decide (za<0)) (.vs (aq r) r.length none) r (.inl rfl) okr nrr (UP C okr nrr vr (by rw[vl];exact lza) (by rw[vm];exact lzb));have ev:gA (decide (za<0)) (WV wB r)=za+zb:=by
    rw[vr,vl,vm];unfold gA al;by_cases h:za<0 <;> by_cases h':zb<0 <;> simp[h,h']at hs ⊢ <;> omega
   rw[ev]at h0;refine⟨v0,h0,fun a0 a1 a5 a6 a7 a8 a9 lo wr=>?_⟩;have out:=fun hh=>h0.out (hh:=hh)
   unfold t253;by_cases h:za<0 <;> by_cases h':zb<0 <;> simp only[h,h',decide_true,decide_false]at hs q219a q219b q261
   all_goals first|(exfalso;revert hs;decide)|skip
   all_goals
   . cases h0;all_goals
     . repeat' first|apply aaK|apply aa|apply aaI|apply aaC|apply acu|apply abZ|apply aP|apply bH|(apply ack;rfl)|(apply acq;rfl;rfl;first|exact q219a _|exact q219b _|exact q308 _|exact q261 _)|(apply acH;rfl;rfl;rfl)|(apply aeS;rfl;rfl;rfl)|(apply abx;rfl;rfl)|(apply abO;rfl;rfl)
       all_goals try omega
       all_goals exact cI rfl rfl (out _)
 have q286:=C.se x l y m hx hy okl okm nrl nrm' ll lm;by_cases hc:WV wB m<=WV wB l
 . obtain⟨g,hg⟩:∃g,g=bB (WV wB l-WV wB m):=⟨_,rfl⟩;have g0:0<=g:=by rw[hg];unfold bB;split <;> omega
   rw[←hg]at q286;obtain⟨r,okr,nrr,vr,q309⟩:=C.CB x l y m hx hy okl okm nrl nrm' ll lm hc;obtain⟨v0,h0,q261⟩:=C.kp (decide (za<0)) (.vs (aq r) r.length none) r (.inl rfl) okr nrr (iQ (gw (b:=wB) ak okr nrr (n:=N) (by rw[vr,vl];omega)) ac);have ev:gA (decide (za<0)) (WV wB r)=za+zb:=by
    rw[vr,vl,vm];unfold gA al;by_cases h:za<0 <;> by_cases h':zb<0 <;> simp[h,h']at hs ⊢ <;> omega
   rw[ev]at h0;refine⟨v0,h0,fun a0 a1 a5 a6 a7 a8 a9 lo wr=>?_⟩;have out:=fun hh=>h0.out (hh:=hh)
   unfold t253;by_cases h:za<0 <;> by_cases h':zb<0 <;> simp only[h,h',decide_true,decide_false]at hs q219a q219b q261
   all_goals first|(exfalso;revert hs;decide)|skip
   all_goals
   . cases h0;all_goals
     . repeat' first|apply aaK|apply aa|apply aaI|apply aaC|apply acu|apply abZ|apply aP|apply bH|(apply ack;rfl)|(apply acj;rfl)|(apply aeY;rfl;rfl)|(apply acq;rfl;rfl;first|exact q219a _|exact q219b _|exact q286 _|exact q309 _|exact q261 _)|(apply acH;rfl;rfl;rfl)|(apply aeS;rfl;rfl;rfl)|(apply abx;rfl;rfl)|(apply abO;rfl;rfl)|(intro _;omega)|intro _
       all_goals try omega
       all_goals exact cI rfl rfl (out _)
 . obtain⟨g,hg⟩:∃g,g=bB (WV wB l-WV wB m):=⟨_,rfl⟩;have g0:g<0:=by rw[hg];unfold bB;split <;> omega
   rw[←hg]at q286;obtain⟨r,okr,nrr,vr,q309⟩:=C.CB y m x l hy hx okm okl nrm' nrl lm ll ac;obtain⟨v0,h0,q261⟩:=C.kp (decide (zb<0)) (.vs (aq r) r.length none) r (.inl rfl) okr nrr (iQ (gw (b:=wB) ak okr nrr (n:=N) (by rw[vr,vm];omega)) ac);have ev:gA (decide (zb<0)) (WV wB r)=za+zb:=by
    rw[vr,vl,vm];unfold gA al;by_cases h:za<0 <;> by_cases h':zb<0 <;> simp[h,h']at hs ⊢ <;> omega
   rw[ev]at h0;refine⟨v0,h0,fun a0 a1 a5 a6 a7 a8 a9 lo wr=>?_⟩;have out:=fun hh=>h0.out (hh:=hh)
   unfold t253;by_cases h:za<0 <;> by_cases h':zb<0 <;> simp only[h,h',decide_true,decide_false]at hs q219a q219b q261
   all_goals first|(exfalso;revert hs;decide)|skip
   all_goals
   . cases h0;all_goals
     . repeat' first|apply aaK|apply aa|apply aaI|apply aaC|apply acu|apply abZ|apply acn|apply bc|(apply acj;rfl)|(apply aeY;rfl;rfl)|(apply acq;rfl;rfl;first|exact q219a _|exact q219b _|exact q286 _|exact q309 _|exact q261 _)|(apply acH;rfl;rfl;rfl)|(apply aeS;rfl;rfl;rfl)|(apply abx;rfl;rfl)|(apply abO;rfl;rfl)|(intro _;omega)|intro _
       all_goals try omega
       all_goals exact cI rfl rfl (out _)
theorem UR {x:Int}(h:9223372036854775808<=x/\x<18446744073709551616):IntKind.i64.wrap x=x-18446744073709551616:=by
 simp only[IntKind.wrap,IntKind.bits,IntKind.signed];simp;omega
theorem US {x:Int}(h : -18446744073709551616<=x/\x < -9223372036854775808):IntKind.i64.wrap x=x+18446744073709551616:=by
 simp only[IntKind.wrap,IntKind.bits,IntKind.signed];simp;omega
theorem agG {t:Nat}{x y:aS}{l:List bj}{pe:List AV}{lo:List (Nat×AV)}{hp:ae}{df wr:List Nat}{a b v:Int}{Q:aw->Prop}(hx:(St.mk pe lo hp df).ah x=some (.iV a))(hy:(St.mk pe lo hp df).ah y=some (.iV b))(hv:IntKind.i64.wrap (a+b)=v)
 (h:WO M l ⟨⟨pe,(t,.iV v)::lo,hp,df⟩,wr⟩ Q):WO M (⟨.l t,.bin .add x y,none⟩::l) ⟨⟨pe,lo,hp,df⟩,wr⟩ Q:=
 abx (v:=.iV v) (by simp[br,hx,hy,dO,hv]) rfl h
theorem dm {f n:Nat}{aV:List Nat}{res:List fK}{body:ao}{ars:List AV}{v0:AV}(hft:M.FT f=some ⟨n,aV,res,body⟩)(hN:ars.length<=n)
 (h:W M body ⟨⟨aV.map (fun t=>(ars[t]?).getD cV),[],[],[]⟩,[]⟩ (lT v0 res)):dj M f ars v0:=ko hft hN h
theorem UU (C:CI M N){a b:AV}{za zb:Int}(ha:aN a za)(hb:aN b zb)(lza:al za<wB^N)(lzb:al zb<wB^N):∃v0,aN v0 (za+zb)/\dj M 253 [a,b] v0:=by
 by_cases hsm:(∃s s',a = .agg [.iV s,.ab]/\b = .agg [.iV s',.ab])/\(-9223372036854775808<=za+zb/\za+zb<9223372036854775808)
 . obtain⟨⟨s,s',rfl,rfl⟩,hr⟩:=hsm;cases ha with
   | small h=>
   cases hb with
   | small h'=>
   refine⟨.agg [.iV (za+zb),.ab],.small hr,?_⟩;refine dm (by rw[C.ft];exact sh) am ?_;unfold qs;simp only[enter];repeat' first|apply aaK|apply aa|apply aaI|apply aaC|apply abZ|apply aP|(apply ack;rfl)|(apply adx;rfl)|(apply acI;rfl;rfl)|(apply acJ;rfl;rfl)|(apply adz;rfl;rfl;omega)|(apply afu;rfl;rfl;exact⟨rfl,by first|exact ba _|decide|(simp[overwrite]),rfl⟩;rfl)|(apply afq;rfl;(first|(focus((repeat' first|exact cC|assumption|apply cW);done))|exact di am);rfl)|(apply acv;rfl;rfl;rfl)|(apply abx;rfl;rfl)|(apply abO;rfl;rfl)|(intro _;omega)|intro _
   all_goals try omega
   all_goals exact cI rfl rfl (.same rfl rfl)
 . have main:∀{s s':Int} {wa wb:AV},a = .agg [.iV s,wa]->b = .agg [.iV s',wb]->∃v0,aN v0 (za+zb)/\∀a0 a1 a5 a6 a7 a8 a9 lo wr,W M t253 ⟨⟨[a0,a1,.ptr 0 0,.ptr 1 0,.ptr 2 0,a5,a6,a7,a8,a9],lo,[some (.cells [.iV s,wa] 171),some (.cells [.iV s',wb] 171),some (.cells [.iV 0,.ab] 171)],[]⟩,wr⟩ (lT v0 [.cell 2 true (.p 4)]):=
    fun e1 e2=>UQ C (e1 ▸ ha) (e2 ▸ hb) lza lzb
   cases ha with
   | small h=>
    cases hb with
    | small h'=>
     have hne:¬(-9223372036854775808<=za+zb/\za+zb<9223372036854775808):=fun hr=>hsm ⟨⟨_,_,rfl,rfl⟩,hr⟩
     obtain⟨v0,h0,tl⟩:=main rfl rfl;refine⟨v0,h0,dm (by rw[C.ft];exact sh) am ?_⟩;obtain⟨c,hc,hc2⟩:∃c,IntKind.i64.wrap (za+zb)=c/\(c=za+zb-18446744073709551616/\9223372036854775808<=za+zb\/c=za+zb+18446744073709551616/\za+zb < -9223372036854775808):=by
      rcases cT (za+zb) 0 with h1|h1
      . exact⟨_,US ac,.inr ⟨rfl,ac⟩⟩
      . exact⟨_,UR ac,.inl ⟨rfl,ac⟩⟩
     unfold qs;simp only[enter];repeat' first|(exact tl _ _ _ _ _ _ _ _ _)|(apply agG;rfl;rfl;exact hc)|apply aaK|apply aa|apply aaI|apply aaC|apply acn|(apply ack;rfl)|(apply acj;rfl)|(apply adx;rfl)|(apply acI;rfl;rfl)|(apply acJ;rfl;rfl)|(apply afq;rfl;(first|(focus((repeat' first|exact cC|assumption|apply cW);done))|exact di am);rfl)|(apply acv;rfl;rfl;rfl)|(apply abx;rfl;rfl)|(apply abO;rfl;rfl)|(intro _;omega)|intro _
     all_goals try omega
    | @fQ σ z w hs ok nr hw hz=>
     cases w with
     | nil=>simp[WV]at hw
     | cons y w=>
     obtain⟨v0,h0,tl⟩:=main rfl rfl;refine⟨v0,h0,dm (by rw[C.ft];exact sh) am ?_⟩;unfold qs;simp only[enter];repeat' first|(exact tl _ _ _ _ _ _ _ _ _)|apply aaK|apply aa|apply aaI|apply aaC|apply acn|(apply acj;rfl)|(apply adx;rfl)|(apply acJ;rfl;rfl)|(apply afq;rfl;(first|(focus((repeat' first|exact cC|assumption|apply cW);done))|exact di am);rfl)|(apply acv;rfl;rfl;rfl)|(apply abx;rfl;rfl)
     all_goals try omega
   | @fQ σ z w hs ok nr hw hz=>
    cases w with
    | nil=>simp[WV]at hw
    | cons y w=>
    cases hb with
    | small h'=>
     obtain⟨v0,h0,tl⟩:=main rfl rfl;refine⟨v0,h0,dm (by rw[C.ft];exact sh) am ?_⟩;unfold qs;simp only[enter];repeat' first|(exact tl _ _ _ _ _ _ _ _ _)|apply aaK|apply aa|apply aaI|apply aaC|apply acn|(apply acj;rfl)|(apply aeU;rfl)|(apply adt;rfl;rfl)|(apply afq;rfl;(first|(focus((repeat' first|exact cC|assumption|apply cW);done))|exact di am);rfl)|(apply acv;rfl;rfl;rfl)|(apply abx;rfl;rfl)
     all_goals try omega
    | @fQ σ' z' w' hs' ok' nr' hw' hz'=>
     cases w' with
     | nil=>simp[WV]at hw'
     | cons y' w'=>
     obtain⟨v0,h0,tl⟩:=main rfl rfl;refine⟨v0,h0,dm (by rw[C.ft];exact sh) am ?_⟩;unfold qs;simp only[enter];repeat' first|(exact tl _ _ _ _ _ _ _ _ _)|apply aaK|apply aa|apply aaI|apply aaC|apply acn|(apply acj;rfl)|(apply aeU;rfl)|(apply adt;rfl;rfl)|(apply afq;rfl;(first|(focus((repeat' first|exact cC|assumption|apply cW);done))|exact di am);rfl)|(apply acv;rfl;rfl;rfl)|(apply abx;rfl;rfl)
     all_goals try omega
def CC (M:az)(N g:Nat)(f:Int->Int):Prop:=∀v z,aN v z->al z<wB^N->∃v0,aN v0 (f z)/\∀h,M.ext g [v] h=some ⟨v0,h,[]⟩
def we (M:az)(N g:Nat)(f:Int->Int->Int):Prop:=∀a b x y,aN a x->aN b y->al x<wB^N->al y<wB^N->∃v0,aN v0 (f x y)/\∀h,M.ext g [a,b] h=some ⟨v0,h,[]⟩
structure CE (M:az)(N:Nat):Prop extends CI M N where
 lW:CC M N 201 (fun z=>-z)
 wh:we M N 253 (· + ·)
structure CJ (M:az)(N:Nat):Prop extends CE M N where
 CH:we M N 263 (· - ·)
 mV:∀v z,aN v z->∀h,M.ext 230 [v] h=some ⟨.iV (bB z),h,[]⟩
theorem jM {z:Int}:al (-z)=al z:=by unfold al;split <;> split <;> omega
theorem UW (C:CE M N){a b:AV}{x y:Int}(ha:aN a x)(hb:aN b y)(lx:al x<wB^N)(ly:al y<wB^N):∃v0,aN v0 (x-y)/\dj M 263 [a,b] v0:=by
 obtain⟨v1,h1,q201⟩:=C.lW b y hb ly;obtain⟨v0,h0,q253⟩:=C.wh a v1 x (-y) ha h1 lx (by rw[jM];exact ly);have h0:aN v0 (x-y):=by rw[Int.sub_eq_add_neg];exact h0
 refine⟨v0,h0,dm (by rw[C.ft];exact UJ) am ?_⟩;have out:=fun hh=>h0.out (hh:=hh)
 unfold IX;simp only[enter];cases ha;all_goals
 . cases hb;all_goals
   . cases h0;all_goals
     . repeat' first|(apply adA;rfl;rfl;(first|(simp only[nca];rfl)|rfl);first|exact q201 _|exact q253 _)|(apply afu;rfl;rfl;exact⟨rfl,by first|exact ba _|decide|(simp[overwrite]),rfl⟩;rfl)|(apply afq;rfl;(first|(focus((repeat' first|exact cC|assumption|apply cW);done))|exact di am);rfl)|apply aaK|apply aa|apply aaI|apply aaC|apply abZ|apply adJ|apply adY|(apply aeu;rfl;rfl;(first|(simp only[nca];rfl)|rfl))|(apply aeV;rfl;(first|(simp only[nca];rfl)|rfl);(first|(simp only[nca];rfl)|rfl))|(apply acv;rfl;rfl;rfl)
       all_goals exact cI rfl rfl (out _)
theorem UX (C:CJ M N){v:AV}{z:Int}(hv:aN v z)(lz:al z<wB^N):∃v0,aN v0 (al z)/\dj M 298 [v] v0:=by
 by_cases hn:z<0
 . obtain⟨v0,h0,q201⟩:=C.lW v z hv lz;have h0:aN v0 (al z):=by rw[show al z = -z from if_pos hn];exact h0
   refine⟨v0,h0,dm (by rw[C.ft];exact IW) am ?_⟩;have out:=fun hh=>h0.out (hh:=hh)
   unfold Cy;simp only[enter];cases hv with
   | small h=>
    cases h0;all_goals
    . repeat' first|apply aaK|apply aa|apply aaI|apply aaC|apply abZ|apply aP|(apply ack;rfl)|(apply acE;rfl;rfl)|(apply acq;rfl;rfl;first|exact q201 _)|(apply afu;rfl;rfl;exact⟨rfl,by first|exact ba _|decide|(simp[overwrite]),rfl⟩;rfl)|(apply afq;rfl;(first|(focus((repeat' first|exact cC|assumption|apply cW);done))|exact di am);rfl)|(apply acv;rfl;rfl;rfl)|(apply abx;rfl;rfl)|(intro _;omega)|intro _
      all_goals try omega
      all_goals exact cI rfl rfl (out _)
   | @fQ σ z w hs ok nr hw hz=>
    have e:σ<0:=by rcases hs with rfl|rfl <;> omega
    cases h0;all_goals
    . repeat' first|apply aaK|apply aa|apply aaI|apply aaC|apply abZ|apply aP|(apply ack;rfl)|(apply acE;rfl;rfl)|(apply acq;rfl;rfl;first|exact q201 _)|(apply afu;rfl;rfl;exact⟨rfl,by first|exact ba _|decide|(simp[overwrite]),rfl⟩;rfl)|(apply afq;rfl;(first|(focus((repeat' first|exact cC|assumption|apply cW);done))|exact di am);rfl)|(apply acv;rfl;rfl;rfl)|(apply abx;rfl;rfl)|(intro _;omega)|intro _
      all_goals try omega
      all_goals exact cI rfl rfl (out _)
 . have e:al z=z:=if_neg hn;rw[e];refine⟨v,hv,dm (by rw[C.ft];exact IW) am ?_⟩;have out:=fun hh=>hv.out (hh:=hh)
   unfold Cy;simp only[enter];cases hv with
   | small h=>
    repeat' first|apply aaK|apply aa|apply aaI|apply aaC|apply abZ|apply acn|(apply acj;rfl)|(apply acE;rfl;rfl)|(apply afu;rfl;rfl;exact⟨rfl,by first|exact ba _|decide|(simp[overwrite]),rfl⟩;rfl)|(apply afq;rfl;(first|(focus((repeat' first|exact cC|assumption|apply cW);done))|exact di am);rfl)|(apply acv;rfl;rfl;rfl)|(apply abx;rfl;rfl)|(intro _;omega)|intro _
    all_goals try omega
    all_goals exact cI rfl rfl (out _)
   | @fQ σ z w hs ok nr hw hz=>
    have e:¬σ<0:=by rcases hs with rfl|rfl <;> omega
    repeat' first|apply aaK|apply aa|apply aaI|apply aaC|apply abZ|apply acn|(apply acj;rfl)|(apply acE;rfl;rfl)|(apply afu;rfl;rfl;exact⟨rfl,by first|exact ba _|decide|(simp[overwrite]),rfl⟩;rfl)|(apply afq;rfl;(first|(focus((repeat' first|exact cC|assumption|apply cW);done))|exact di am);rfl)|(apply acv;rfl;rfl;rfl)|(apply abx;rfl;rfl)|(intro _;omega)|intro _
    all_goals try omega
    all_goals exact cI rfl rfl (out _)
theorem Je {x y:Int}:bB (x-y)=if x<y then -1 else if y<x then 1 else 0:=by
 unfold bB;by_cases h:x<y
 . rw[if_pos h,if_pos ac]
 . rw[if_neg h,if_neg ac];by_cases h':y<x
   . rw[if_pos h',if_pos ac]
   . rw[if_neg h',if_neg ac]
theorem UY (C:CJ M N){a b:AV}{x y:Int}(ha:aN a x)(hb:aN b y)(lx:al x<wB^N)(ly:al y<wB^N):dj M 200 [a,b] (.iV (bB (x-y))):=by
 obtain⟨v0,h0,q263⟩:=C.CH a b x y ha hb lx ly;have q230:=C.mV v0 (x-y) h0;refine dm (by rw[C.ft];exact UK) am ?_;unfold IY;simp only[enter];cases ha with
 | small h=>
  cases hb with
  | small h'=>
   by_cases h1:x<y
   . rw[Je,if_pos h1];repeat' first|apply aaK|apply aa|apply aaI|apply aaC|apply acu|apply abZ|apply aP|apply bH|(apply ack;rfl)|(apply adx;rfl)|(apply acE;rfl;rfl)|(apply acJ;rfl;rfl)|(apply afq;rfl;(first|(focus((repeat' first|exact cC|assumption|apply cW);done))|exact di am);rfl)|(apply acv;rfl;rfl;rfl)|(apply abx;rfl;rfl)|(apply abO;rfl;rfl)|(intro _;omega)|intro _
     all_goals try omega
     all_goals exact cI rfl rfl (.same rfl rfl)
   . rw[Je,if_neg h1];by_cases h2:y<x
     . rw[if_pos h2];repeat' first|apply aaK|apply aa|apply aaI|apply aaC|apply acu|apply abZ|apply aP|apply bH|(apply ack;rfl)|(apply acj;rfl)|(apply adx;rfl)|(apply acE;rfl;rfl)|(apply acI;rfl;rfl)|(apply acJ;rfl;rfl)|(apply afq;rfl;(first|(focus((repeat' first|exact cC|assumption|apply cW);done))|exact di am);rfl)|(apply acv;rfl;rfl;rfl)|(apply abx;rfl;rfl)|(apply abO;rfl;rfl)|(intro _;omega)|intro _
       all_goals try omega
       all_goals exact cI rfl rfl (.same rfl rfl)
     . rw[if_neg h2];repeat' first|apply aaK|apply aa|apply aaI|apply aaC|apply acu|apply abZ|apply acn|apply aP|apply bc|(apply ack;rfl)|(apply acj;rfl)|(apply adx;rfl)|(apply acE;rfl;rfl)|(apply acI;rfl;rfl)|(apply acJ;rfl;rfl)|(apply afq;rfl;(first|(focus((repeat' first|exact cC|assumption|apply cW);done))|exact di am);rfl)|(apply acv;rfl;rfl;rfl)|(apply abx;rfl;rfl)|(apply abO;rfl;rfl)|(intro _;omega)|intro _
       all_goals try omega
       all_goals exact cI rfl rfl (.same rfl rfl)
  | @fQ σ z w hs ok nr hw hz=>
   cases w with
   | nil=>simp[WV]at hw
   | cons u w=>
   repeat' first|apply aaK|apply aa|apply aaI|apply aaC|apply abZ|apply acn|(apply acj;rfl)|(apply adx;rfl)|(apply acJ;rfl;rfl)|(apply acq;rfl;rfl;first|exact q263 _|exact q230 _)|(apply afq;rfl;(first|(focus((repeat' first|exact cC|assumption|apply cW);done))|exact di am);rfl)|(apply acv;rfl;rfl;rfl)|(apply abx;rfl;rfl)|(apply abO;rfl;rfl)
   all_goals exact cI rfl rfl (.same rfl rfl)
 | @fQ σ z w hs ok nr hw hz=>
  cases w with
  | nil=>simp[WV]at hw
  | cons u w=>
  cases hb;all_goals
  . repeat' first|apply aaK|apply aa|apply aaI|apply aaC|apply abZ|apply acn|(apply acj;rfl)|(apply aeU;rfl)|(apply adt;rfl;rfl)|(apply acq;rfl;rfl;first|exact q263 _|exact q230 _)|(apply afq;rfl;(first|(focus((repeat' first|exact cC|assumption|apply cW);done))|exact di am);rfl)|(apply acv;rfl;rfl;rfl)|(apply abx;rfl;rfl)|(apply abO;rfl;rfl)
    all_goals exact cI rfl rfl (.same rfl rfl)
theorem UZ (hft:M.FT=FT)(s:Int):dj M 196 [.iV s] (.agg [.iV s,.ab]):=by
 refine dm (by rw[hft];exact UL) am ?_;unfold IZ;simp only[enter];repeat' first|apply aaK|apply aa|apply aaI|apply aaC|apply abZ|(apply afu;rfl;rfl;exact⟨rfl,by first|exact ba _|decide|(simp[overwrite]),rfl⟩;rfl)|(apply acv;rfl;rfl;rfl)|(apply abx;rfl;rfl)
 exact cI rfl rfl (.same rfl rfl)
end Go.Ab.Ch5.N
