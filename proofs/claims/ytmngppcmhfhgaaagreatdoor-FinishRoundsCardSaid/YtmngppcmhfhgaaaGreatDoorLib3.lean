/-
  Own work: the resolved code of some functions of chapter 1.
-/
import Derived.Test.YtmngppcmhfhgaaaGreatDoorCh5Base
import Derived.Test.YtmngppcmhfhgaaaGreatDoorLib1
import Derived.Test.YtmngppcmhfhgaaaGreatDoorCh5Row
import Derived.Test.YtmngppcmhfhgaaaGreatDoorLib2
open Bool renaming true_or→nk
open Int renaming mul_le_mul_of_nonneg_left→br,mul_le_mul_of_nonneg_right→bZ,le_of_lt→b9,mul_assoc→cC,mul_comm→cD,pow_pos→cP,pow_succ→cT,mul_add→cZ,mul_lt_mul_of_pos_right→c5,mul_zero→c6,ediv_lt_of_lt_mul→c7,mul_nonneg→dc,lt_or_le→dg,add_mul→dz,add_zero→d8,lt_of_mul_lt_mul_left→d9,ediv_nonneg→eA,pow_add→eL,one_mul→fo,lt_mul_ediv_self_add→fu,ediv_eq_zero_of_lt→fY,mul_ediv_add_emod→f7,toNat_natCast→f9,sub_zero→gD,emod_lt_of_pos→g9,mul_sub→ii,eq_ofNat_of_zero_le→ip,mul_le_mul→iq,mul_one→iH,sub_mul→iI,lt_ediv_add_one_mul_self→i6,emod_nonneg→i7,lt_of_mul_lt_mul_right→i9,mul_right_comm→je,mul_emod_left→jj,mul_ediv_mul_of_pos→jN,ediv_mul_le→j0,le_ediv_of_mul_le→j1,add_mul_ediv_left→j2,mul_ediv_self_le→j4,add_assoc→j6,le_trans→lc,zero_add→le,add_comm→li,emod_eq_of_lt→l9
open List renaming length_set→be,take_of_length_le→bj,length_take→ce,getElem!_eq_getElem?_getD→ci,replicate→c9,append_assoc→du,drop_eq_getElem_cons→d6,take_length→d7,take_append_drop→f6,length_cons→gC,getElem?_eq_getElem→gF,mem_singleton→gT,eq_nil_of_length_eq_zero→i5,drop_zero→i8,getElem?_append_left→jg,drop_length→jt,getElem?_set_ne→j3,take_succ_cons→j5,mem_replicate→j7,set_cons_succ→j9,take_add_one→kT,cons_append→mp,length_drop→m5,drop_drop→m9,drop_left→ne
open Nat renaming le_refl→bA,min_eq_left→de,zero_le→gc,le_trans→jV,lt_or_ge→k9,lt_succ_self→m6,log2_eq_iff→m8
open Option renaming toList_some→j8,isNone_none→kw,isSome_some→kO,map_some→m7
set_option maxHeartbeats 8000000
set_option maxRecDepth 20000
namespace Go.Ab.Ch5.N
set_option maxRecDepth 1000000
def Jn:al:=zR [⟨.p 3,.mv (.c (.bool false)),none⟩] (zR [zm 7 0,zm 8 1,zb 9 .lss 7 8,zn 10 9,zg (zm 11 0) 10 false,zg (zm 12 2) 10 false,zg (zb 13 .gtr 11 12) 10 false,zP 14 10 13,zw 3 14] (.ret))
theorem Vt:FT 238=some ⟨15,[0,1,2,6],[.var (.p 3)],Jn⟩:=by kernel_rfl
end Go.Ab.Ch5.N

/-
  Own work: plain facts of drawn orders: an exchange after the other gives an order of the same elements; its last place and the rest.
-/
namespace Go.Ab
end Go.Ab

/-
  Own work: mark.Draw, mark.outside, stadionref01.CheckDraw: what they compute.
-/
namespace Go.Ab.Ch5.N
open Go.Proofs.Tryz
variable {M:ay}
theorem Vu (hft:M.FT=FT)(x lo hi:Int):bm M 238 [.iV x,.iV lo,.iV hi] [] ⟨.bool (decide (x<lo) || decide (hi<x)),[],[]⟩:=by
 refine bX (by rw[hft];exact Vt) ax ?_;unfold Jn;repeat' first|apply abx|apply aa|apply abr|apply aaL|apply acG|(apply ahQ;rfl)|(apply aid;rfl)|(apply aep;rfl;rfl)|(apply aeq;rfl;rfl)|(apply aeB;rfl;rfl)|(apply aeC;rfl;rfl)|(apply abA;rfl;rfl)|(apply abC;rfl;rfl)|(intro _;omega)|intro _
 all_goals exact⟨.inr rfl,rfl,_,rfl,by simp[bk, *];try omega,by simp[AV.top]⟩
end Go.Ab.Ch5.N

/-
  Own work: contracts of chapter 1 as a table.
-/
namespace Go.Ab
open Go.ChangeShapes Go.WideShapes Go.RowKit
variable {P:Program} {gl:Nat->Option AV}
theorem gU {FT:FuncId->Option dm}{T:List (Nat×Spec)}:(bD P FT T).ext=bM T:=rfl
theorem Jm {FT:FuncId->Option dm}(hs:kN P gl FT){T:List (Nat×Spec)}(hT:cW P gl (bM T)){f:Nat}{xs:List AV}{w:World}(hr:bm (bD P FT T) f xs [] ⟨.bool true,[],[]⟩)
 (hgl:∀g v,gl g=some v->V bare w v (.pointer (some ⟨g,0,none⟩))) {as':List Value} (hv:VL bare w xs as'):Calls P f as'.toArray w fun e w'=>e = .returned (.bool true)/\Below w.heap.size w w':=by
 obtain⟨n,hn⟩:=hr;refine(Ii hs.mix hT hs.ft hn hgl hv).mono fun e w' he=>?_
 obtain⟨v',h1,⟨ρ',h2⟩,h3⟩:=he;cases h2;exact⟨h1,Ij h3⟩
end Go.Ab
namespace Go.Ab.Ch5.N
open Go.Proofs
def Jo:Spec:=fun
 | [.int .i64 x,.int .i64 lo,.int .i64 hi],h=>some ⟨.bool (decide (x<lo) || decide (hi<x)),h,[]⟩
 | _,_=>none
theorem Vv:bl Tryz.prog gl 238 Jo:=by
 intro xs h r hq;unfold Jo at hq;split at hq
 . cases hq;exact jo iu bP (Vu (M:=bD Tryz.prog FT []) bN _ _ _) (fJ.same rfl) rfl (.inl rfl)
 . cases hq
set_option maxRecDepth 1000000
def Jp:al:=zR [zi 2 0] (.seq (zR [zm 5 0] (.cond (.l 5) (zR [zm 6 1,zw 2 6] (.ret)) (.skip))) (zR [zi 2 0] (.ret)))
theorem Vw:FT 228=some ⟨7,[0,1,4],[.var (.p 2)],Jp⟩:=by kernel_rfl
def wQ:al:=zR [zr 8 .lss 5 4] (.seq (.cond (.l 8) (.skip) (.exit 0)) (.seq (.block 1 (zR [⟨.l 9,.dE none 1 (.p 3) (.p 5),none⟩,zd 10 1 9,zw 2 10] (zR [zm 11 2,zc 12 .neq 11 0] (.cond (.l 12) (zR [zm 13 2,zw 1 13] (.ret)) (.skip))))) (.region [zq 14 .add 5 1,zw 5 14])))
def Jq:al:=zR [zi 1 0] (.seq (zR [⟨.p 3,.mv (.p 0),none⟩,⟨.p 4,.len .sl (.p 3),none⟩,zi 5 0] (.block 0 (.loop wQ))) (zR [zi 1 0] (.ret)))
theorem Vx:FT 227=some ⟨15,[0,2,4,5,6,7],[.var (.p 1)],Jq⟩:=by kernel_rfl
variable {inv:fy} {F:FuncId->Option dm}
abbrev kQ (T:List (Nat×Spec))(inv:fy)(F:FuncId->Option dm):ay:=⟨bM T,inv,F⟩
theorem Vy {g:Nat}{sp:Spec}{T:List (Nat×Spec)}{xs:List AV}{h:ab}:bM ((g,sp)::T) g xs h=sp xs h:=by simp[bM]
def dM:List Int->Int
 | []=>0
 | e::r=>if e=0 then dM r else e
def jq:Spec:=fun
 | [.bool t,.int .i64 e],h=>some ⟨.int .i64 (if t then e else 0),h,[]⟩
 | _,_=>none
def iw:Spec:=fun
 | [v],h=>match dZ h v with
   | some l=>if l.length<4611686018427387904 then some ⟨.int .i64 (dM l),h,[]⟩ else none
   | none=>none
 | _,_=>none
theorem Vz {T:List (Nat×Spec)}(hft:F=FT)(t:Bool)(e:Int):bm (kQ T inv F) 228 [.bool t,.int .i64 e] [] ⟨.int .i64 (if t then e else 0),[],[]⟩:=by
 refine bX (show F 228=_ from by rw[hft];exact Vw) ax ?_;unfold Jp;simp only[enter];cases t;all_goals
  repeat' first|apply abx|apply aa|apply abr|apply aaL|apply acG|apply adA|apply ba|(apply acO;rfl)|(apply acM;rfl)|(apply abA;rfl;rfl)|(apply abC;rfl;rfl)
 all_goals exact⟨.inr rfl,rfl,_,rfl,rfl,rfl⟩
theorem Dt {l:List Int}{i:Nat}(h:i<l.length):dM (l.drop i)=if l[i]! = 0 then dM (l.drop (i+1)) else l[i]! := by
 rw[d6 h,getElem!_pos l i h,dM]
theorem Jr {T:List (Nat×Spec)}(l:List Int)(cap:Option Nat)(a0:AV)(hl:l.length<4611686018427387904)(hp:ab)(df:List Nat){Q:Ex->au->Prop}:∀(r i:Nat),i+r=l.length->∀(a1 a2:AV) (lo:List (Nat×AV)) (wr:List Nat),
 (dM (l.drop i)=0->∀a2 lo wr,Q (.exit 0) ⟨⟨[a0,a1,a2,.vs (ints l) l.length cap,.int .i64 l.length,.int .i64 l.length],lo,hp,df⟩,wr⟩) ->
 (∀a2 a5 lo wr,Q .ret ⟨⟨[a0,.int .i64 (dM (l.drop i)),a2,.vs (ints l) l.length cap,.int .i64 l.length,a5],lo,hp,df⟩,wr⟩) ->
 W (kQ T inv F) (.loop wQ) ⟨⟨[a0,a1,a2,.vs (ints l) l.length cap,.int .i64 l.length,.int .i64 i],lo,hp,df⟩,wr⟩ Q
 | 0,i,hi,a1,a2,lo,wr,h1,h2=>by
  obtain rfl:i=l.length:=by omega
  refine W.loop ?_;unfold wQ;repeat' first|apply abx|apply aa|apply abr|apply aaL|apply aeM|apply bH|apply cA|(apply acM;rfl)|(apply aep;rfl;rfl)|(intro _;omega)|intro _
  exact h1 (by simp[dM]) _ _ _
 | r+1,i,hi,a1,a2,lo,wr,h1,h2=>by
  have e:=Dt (l:=l) (i:=(i:Int).toNat) ac;rw[f9]at e;refine W.loop ?_;unfold wQ;repeat' first|apply abx|apply aa|apply abr|apply aaL|apply aef|apply acG|apply adA|apply ba|apply bC|apply cn|apply dr|(apply acO;rfl)|(apply acM;rfl)|(apply aep;rfl;rfl)|(apply agx;rfl;rfl)|(apply aeX;rfl;rfl;omega)|(apply ahT;rfl;rfl;omega)|(apply aib;rfl;exact fun _=>rfl;(first|omega|(simp only[be];omega)|(simp;omega));decide;rfl;case ia=>infer_instance)|(apply abA;rfl;rfl)|(apply abC;rfl;rfl)|(intro _;omega)|intro _
  . rename_i hne;rw[f9]at hne;rw[if_neg hne]at e;rw[e]at h2;exact h2 _ _ _ _
  . rename_i he;rw[f9]at he;rw[if_pos he]at e;rw[e]at h1 h2;exact fX (Jr l cap a0 hl hp df r (i+1) ac _ _ _ _ h1 h2)
theorem VA {T:List (Nat×Spec)}(hft:F=FT)(l:List Int)(cap:Option Nat)(hl:l.length<4611686018427387904):bm (kQ T inv F) 227 [.vs (ints l) l.length cap] [] ⟨.int .i64 (dM l),[],[]⟩:=by
 refine bX (show F 227=_ from by rw[hft];exact Vx) ax ?_;unfold Jq;simp only[enter];repeat' first|apply abx|apply aa|apply abr|apply aaL|apply aef|(apply abC;rfl;rfl)
 refine Jr l cap _ hl _ _ l.length 0 ac _ _ _ _ (fun h a2 lo wr=>?_) (fun a2 a5 lo wr=>?_)
 . repeat' first|apply abx|apply aa|apply abr|apply aaL|apply acG|apply bJ|(apply abC;rfl;rfl)
   exact⟨.inr rfl,rfl,_,rfl,by rw[i8]at h;rw[h];rfl,rfl⟩
 . repeat' first|apply ba|apply cn
   exact⟨.inr rfl,rfl,_,rfl,rfl,rfl⟩
theorem Js:bl Tryz.prog gl 228 jq:=by
 intro xs h r hq;unfold jq at hq;split at hq
 . cases hq;exact jo iu bP (Vz (T:=[]) rfl _ _) (fJ.same rfl) rfl (.inl rfl)
 . cases hq
theorem Jt {f:Nat}(hw:∀(l:List Int) cap,l.length<4611686018427387904->bm (bD Tryz.prog FT []) f [.vs (ints l) l.length cap] [] ⟨.int .i64 (dM l),[],[]⟩):bl Tryz.prog gl f iw:=by
 intro xs h r hq;unfold iw at hq;split at hq
 . split at hq
   . rename_i l hl;split at hq
     . rename_i hlen;cases hq;obtain⟨S,cap,hf⟩:=(sV hl).fr (fun _=>rfl);exact jo iu bP (hw l cap hlen) (.cons hf .nil) rfl (.inr rfl)
     . cases hq
   . cases hq
 . cases hq
theorem Ju:bl Tryz.prog gl 227 iw:=Jt fun l cap h=>VA (T:=[]) rfl l cap h
def wR:al:=.seq (zR [zm 6 2,zc 7 .gtr 6 0,zn 8 7,zg (zm 9 0) 8 true,zg (zm 10 2) 8 true,zg (zc 11 .sub 10 1) 8 true,zg (za 12 1 9 11) 8 true,zg (zd 13 1 12) 8 true,⟨.l 14,.bin .eql (.l 13) (kU 0),some ((.l 8),true)⟩,zp 15 8 14] (.cond (.l 15) (.skip) (.exit 0))) (.block 1 (.region [zm 16 2,zc 17 .sub 16 1,zw 2 17]))
def Jv:al:=zR [⟨.p 1,.mv (.c (.ah)),none⟩] (zR [zm 4 0,zl 5 4,zw 2 5] (.seq (.block 0 (.loop wR)) (zR [zm 18 0,zm 19 2,⟨.l 20,.slice .sl 1 (.l 18) none (some (.l 19)) none,none⟩,zw 1 20] (.ret))))
theorem VB:FT 288=some ⟨21,[0,2,3],[.var (.p 1)],Jv⟩:=by kernel_rfl
def wS:al:=.seq (zR [zm 19 3,zc 20 .geq 19 0] (.cond (.l 20) (.skip) (.exit 0))) (.seq (.block 1 (.seq (.draw [(zm 23 0,[]),(zm 24 3,[0]),(za 25 1 23 24,[]),(zd 26 1 25,[]),(zm 27 1,[0,1,2,3]),(zm 28 3,[0,1,2,3,4]),(za 29 1 27 28,[0,1,2,3]),(zd 30 1 29,[0,1,2,3]),(zb 31 .neq 26 30,[])]) (.cond (.l 31) (.seq (.seq (.draw [(zm 32 0,[]),(zm 33 3,[0]),(za 34 1 32 33,[]),(zd 35 1 34,[]),(zm 36 1,[0,1,2,3]),(zm 37 3,[0,1,2,3,4]),(za 38 1 36 37,[0,1,2,3]),(zd 39 1 38,[0,1,2,3]),(zb 40 .lss 35 39,[])]) (.cond (.l 40) (zR [zi 2 (-1)] (.ret)) (.skip))) (zR [zi 2 1] (.ret))) (.skip)))) (.region [zm 21 3,zc 22 .sub 21 1,zw 3 22]))
def Jw:al:=zR [zi 2 0] (.seq (zR [zm 6 0,zl 7 6,zm 8 1,zl 9 8,zb 10 .neq 7 9] (.cond (.l 10) (.seq (zR [zm 11 0,zl 12 11,zm 13 1,zl 14 13,zb 15 .lss 12 14] (.cond (.l 15) (zR [zi 2 (-1)] (.ret)) (.skip))) (zR [zi 2 1] (.ret))) (.skip))) (.seq (zR [zm 16 0,zl 17 16,zc 18 .sub 17 1,zw 3 18] (.block 0 (.loop wS))) (zR [zi 2 0] (.ret))))
theorem VC:FT 286=some ⟨41,[0,1,4,5],[.var (.p 2)],Jw⟩:=by kernel_rfl
def wT:al:=zR [zr 30 .lss 17 16] (.seq (.cond (.l 30) (.skip) (.exit 2)) (.seq (.block 3 (zR [zm 31 17,⟨.l 32,.dE none 1 (.p 15) (.p 17),none⟩,zd 33 1 32,zw 7 31,zw 8 33] (zR [zm 35 5,zm 36 8,z2 37 259 35 36,zn 34 37,ze 38 0 34,ze 39 1 34,zw 9 38,zw 10 39] (zR [⟨.p 11,.mv (kU 0),none⟩] (zR [zm 41 10,zm 42 3,zm 43 4,zm 44 7,zb 45 .add 43 44,za 46 1 42 45,zd 47 1 46,⟨.l 48,.call (kF 310) [(.l 41),(.l 47),(kU 0)],none⟩,zn 40 48,ze 49 0 40,ze 50 1 40,zw 10 49,zw 11 50] (zR [zm 51 9,zm 52 11,zb 53 .add 51 52,zw 9 53] (zR [zm 55 10,zm 56 6,⟨.l 57,.call (kF 310) [(.l 55),(.l 56),(kU 0)],none⟩,zn 54 57,ze 58 0 54,ze 59 1 54,zw 10 58,zw 11 59] (.region [zm 60 3,zm 61 4,zm 62 7,zb 63 .add 61 62,zm 64 10,zm 65 9,zm 66 11,zb 67 .add 65 66,za 68 1 60 63,zS 1 68 64,zw 6 67])))))))) (.region [zq 69 .add 17 1,zw 17 69])))
def Du:al:=zR [zr 23 .lss 14 13] (.seq (.cond (.l 23) (.skip) (.exit 0)) (.seq (.block 1 (zR [zm 24 14,⟨.l 25,.dE none 1 (.p 12) (.p 14),none⟩,zd 26 1 25,zw 4 24,zw 5 26] (zR [⟨.p 6,.mv (kU 0),none⟩] (.seq (zR [⟨.p 15,.mv (.p 1),none⟩,⟨.p 16,.len .sl (.p 15),none⟩,zi 17 0] (.block 2 (.loop wT))) (.region [zm 70 3,zm 71 4,zm 72 1,zl 73 72,zb 74 .add 71 73,zm 75 6,za 76 1 70 74,zS 1 76 75]))))) (.region [zq 77 .add 14 1,zw 14 77])))
def Jx:al:=zR [⟨.p 2,.mv (.c (.ah)),none⟩] (zR [zm 14 0,zl 15 14,zm 16 1,zl 17 16,zb 18 .add 15 17,⟨.l 19,.iB 274 1 8 [.uV (0)] (.l 18) (.l 18),none⟩,zw 3 19] (.seq (zR [⟨.p 12,.mv (.p 0),none⟩,⟨.p 13,.len .sl (.p 12),none⟩,zi 14 0] (.block 0 (.loop Du))) (zR [zm 78 3,z1 79 288 78,zw 2 79] (.ret))))
theorem VD:FT 262=some ⟨80,[0,1,4,5,6,7,8,9,10,11,12,13,20,21,22,27,28,29],[.var (.p 2)],Jx⟩:=by kernel_rfl
def Dv:al:=zR [zr 15 .lss 8 7] (.seq (.cond (.l 15) (.skip) (.exit 0)) (.seq (.block 1 (zR [zm 16 8,⟨.l 17,.dE none 1 (.p 6) (.p 8),none⟩,zd 18 1 17,zw 4 16,zw 5 18] (.seq (.draw [(zm 19 3,[]),(zm 20 4,[0]),(za 21 1 19 20,[]),(zd 22 1 21,[]),(zm 23 5,[0,1,2,3]),(zm 24 1,[0,1,2,3,4]),(zb 25 .shl 23 24,[0,1,2,3]),(zb 26 .or 22 25,[]),(za 27 1 19 20,[]),(zS 1 27 26,[])]) (zR [zm 28 1,zc 29 .gtr 28 0] (.cond (.l 29) (.region [zm 30 3,zm 31 4,zc 32 .add 31 1,zm 33 5,zm 34 1,⟨.l 35,.bin .sub (kI 64) (.l 34),none⟩,zb 36 .shr 33 35,za 37 1 30 32,zS 1 37 36]) (.skip)))))) (.region [zq 38 .add 8 1,zw 8 38])))
def Jy:al:=zR [⟨.p 2,.mv (.c (.ah)),none⟩] (zR [zm 8 0,zl 9 8,zc 10 .add 9 1,⟨.l 11,.iB 274 1 8 [.uV (0)] (.l 10) (.l 10),none⟩,zw 3 11] (.seq (zR [⟨.p 6,.mv (.p 0),none⟩,⟨.p 7,.len .sl (.p 6),none⟩,zi 8 0] (.block 0 (.loop Dv))) (zR [zm 39 3,zw 2 39] (.ret))))
theorem VE:FT 290=some ⟨40,[0,1,4,5,6,7,12,13,14],[.var (.p 2)],Jy⟩:=by kernel_rfl
def wU:al:=.seq (zR [zm 30 6,zc 31 .geq 30 0] (.cond (.l 31) (.skip) (.exit 0))) (.seq (.block 1 (.draw [(zm 35 4,[]),(zm 36 6,[0]),(zm 37 5,[0,1]),(zm 38 0,[0,1,2]),(zm 39 6,[0,1,2,3]),(za 40 1 38 39,[0,1,2]),(zd 41 1 40,[0,1,2]),(zm 42 1,[0,1,2,3,4,5,6]),(⟨.l 43,.dE none 1 (.l 42) (kI 0),none⟩,[0,1,2,3,4,5,6]),(zd 44 1 43,[0,1,2,3,4,5,6]),(⟨.l 45,.call (kF 287) [(.l 37),(.l 41),(.l 44)],none⟩,[0,1]),(zn 34 45,[0,1]),(ze 46 0 34,[0,1]),(ze 47 1 34,[0,1,12]),(za 48 1 35 36,[13]),(zS 1 48 46,[13]),(zw 5 47,[])])) (.region [zm 32 6,zc 33 .sub 32 1,zw 6 33]))
def wV:al:=.seq (zR [zm 80 12,zc 81 .geq 80 0] (.cond (.l 81) (.skip) (.exit 2))) (.seq (.block 3 (.region [zm 84 11,zm 85 12,zm 86 9,zm 87 12,zm 88 12,zm 89 10,zb 90 .add 88 89,zc 91 .add 90 1,⟨.l 92,.slice .sl 1 (.l 86) (some (.l 87)) (some (.l 91)) none,none⟩,zm 93 8,z2 94 291 92 93,za 95 1 84 85,zS 1 95 94])) (.region [zm 82 12,zc 83 .sub 82 1,zw 12 83]))
def wW:al:=zR [zr 98 .lss 15 14] (.seq (.cond (.l 98) (.skip) (.exit 4)) (.seq (.block 5 (zR [zm 99 15,zw 13 99] (zR [zm 100 9,zm 101 13,za 102 1 100 101,zd 103 1 102,zm 104 7,zb 105 .shr 103 104,za 106 1 100 101,zS 1 106 105] (zR [zm 107 7,zc 108 .gtr 107 0,zn 109 108,zg (zm 110 13) 109 true,zg (zc 111 .add 110 1) 109 true,zg (zm 112 9) 109 true,zg (zl 113 112) 109 true,zg (zb 114 .lss 111 113) 109 true,zp 115 109 114] (.cond (.l 115) (.draw [(zm 116 9,[]),(zm 117 13,[0]),(za 118 1 116 117,[]),(zd 119 1 118,[]),(zm 120 9,[0,1,2,3]),(zm 121 13,[0,1,2,3,4]),(zc 122 .add 121 1,[0,1,2,3,4]),(za 123 1 120 122,[0,1,2,3]),(zd 124 1 123,[0,1,2,3]),(zm 125 7,[0,1,2,3,4,5,6,7,8]),(⟨.l 126,.bin .sub (kI 64) (.l 125),none⟩,[0,1,2,3,4,5,6,7,8]),(zb 127 .shl 124 126,[0,1,2,3]),(zb 128 .or 119 127,[]),(za 129 1 116 117,[]),(zS 1 129 128,[])]) (.skip)))))) (.region [zq 130 .add 15 1,zw 15 130])))
def Dw:al:=zR [⟨.p 2,.mv (.c (.ah)),none⟩,⟨.p 3,.mv (.c (.ah)),none⟩] (.seq (zR [zm 16 0,zm 17 1,z2 18 286 16 17,zc 19 .lss 18 0] (.cond (.l 19) (zR [zm 20 0,⟨.p 2,.mv (.c (.ah)),none⟩,zw 3 20] (.ret)) (.skip))) (.seq (zR [zm 21 1,zl 22 21,zc 23 .eql 22 1] (.cond (.l 23) (zR [zm 24 0,zl 25 24,⟨.l 26,.iB 274 1 8 [.uV (0)] (.l 25) (.l 25),none⟩,zw 4 26] (zR [⟨.p 5,.mv (kU 0),none⟩] (.seq (zR [zm 27 0,zl 28 27,zc 29 .sub 28 1,zw 6 29] (.block 0 (.loop wU))) (zR [zm 49 4,z1 50 288 49,zm 51 5,⟨.l 52,.dW 274 1 1 [.uV (0)] [(0,1,(.l 51))],none⟩,z1 53 288 52,zw 2 50,zw 3 53] (.ret))))) (.skip))) (zR [zm 54 1,zm 55 1,zl 56 55,zc 57 .sub 56 1,za 58 1 54 57,zd 59 1 58,z1 60 289 59,zw 7 60] (zR [zm 61 1,zm 62 7,z2 63 290 61 62,z1 64 288 63,zw 8 64] (zR [zm 65 0,zm 66 7,z2 67 290 65 66,zw 9 67] (zR [zm 68 8,zl 69 68,zw 10 69] (zR [zm 70 0,zl 71 70,zm 72 10,zb 73 .sub 71 72,zc 74 .add 73 1,⟨.l 75,.iB 274 1 8 [.uV (0)] (.l 74) (.l 74),none⟩,zw 11 75] (.seq (zR [zm 76 0,zl 77 76,zm 78 10,zb 79 .sub 77 78,zw 12 79] (.block 2 (.loop wV))) (.seq (zR [⟨.p 14,.mv (.p 10),none⟩,zi 15 0] (.block 4 (.loop wW))) (.seq (.draw [(zm 131 11,[]),(z1 132 288 131,[]),(zm 133 9,[0,1]),(zm 134 10,[0,1,2]),(⟨.l 135,.slice .sl 1 (.l 133) none (some (.l 134)) none,none⟩,[0,1]),(z1 136 288 135,[]),(zw 2 132,[]),(zw 3 136,[])]) (.ret)))))))))))
theorem Jz:FT 220=some ⟨137,[0,1,4,5,6,7,8,9,10,11,12,13,14,15,96,97],[.var (.p 2),.var (.p 3)],Dw⟩:=by kernel_rfl
def Dx:al:=.seq (zR [zm 63 6,⟨.l 64,.bin .eql (.l 63) (kU 0),none⟩] (.cond (.l 64) (.skip) (.exit 0))) (.block 1 (zR [zm 66 4,zm 67 1,zm 68 3,zc 69 .sub 68 2,za 70 1 67 69,zd 71 1 70,z2 72 259 66 71,zn 65 72,ze 73 0 65,ze 74 1 65,zw 7 73,zw 8 74] (.seq (zR [zm 75 7,zm 76 5,zb 77 .lss 75 76,zn 78 77,zg (zm 79 7) 78 false,zg (zm 80 5) 78 false,zg (zb 81 .eql 79 80) 78 false,zg (zn 82 81) 78 false,zg (zm 83 8) 82 true,zg (zm 84 0) 82 true,zg (zm 85 3) 82 true,zg (zc 86 .sub 85 2) 82 true,zg (za 87 1 84 86) 82 true,zg (zd 88 1 87) 82 true,zg (zb 89 .leq 83 88) 82 true,zg (zp 90 82 89) 78 false,zP 91 78 90] (.cond (.l 91) (.exit 0) (.skip))) (zR [zm 92 4,⟨.l 93,.bin .sub (.l 92) (kU 1),none⟩,zw 4 93] (.region [zm 95 5,zm 96 1,zm 97 3,zc 98 .sub 97 1,za 99 1 96 98,zd 100 1 99,⟨.l 101,.call (kF 310) [(.l 95),(.l 100),(kU 0)],none⟩,zn 94 101,ze 102 0 94,ze 103 1 94,zw 5 102,zw 6 103])))))
def td:al:=zR [zr 106 .lss 18 17] (.seq (.cond (.l 106) (.skip) (.exit 2)) (.seq (.block 3 (zR [zm 107 18,zw 11 107] (zR [zm 109 4,zm 110 1,zm 111 11,za 112 1 110 111,zd 113 1 112,z2 114 259 109 113,zn 108 114,ze 115 0 108,ze 116 1 108,zw 12 115,zw 13 116] (zR [⟨.p 14,.mv (kU 0),none⟩] (zR [zm 118 13,zm 119 10,⟨.l 120,.call (kF 310) [(.l 118),(.l 119),(kU 0)],none⟩,zn 117 120,ze 121 0 117,ze 122 1 117,zw 13 121,zw 14 122] (zR [zm 123 12,zm 124 14,zb 125 .add 123 124,zw 10 125] (.region [zm 127 0,zm 128 11,zm 129 0,zm 130 11,za 131 1 129 130,zd 132 1 131,zm 133 13,zm 134 9,⟨.l 135,.call (kF 330) [(.l 132),(.l 133),(.l 134)],none⟩,zn 126 135,ze 136 0 126,ze 137 1 126,za 138 1 127 128,zS 1 138 136,zw 9 137]))))))) (.region [zq 139 .add 18 1,zw 18 139])))
def tg:al:=zR [zr 158 .lss 20 19] (.seq (.cond (.l 158) (.skip) (.exit 4)) (.seq (.block 5 (zR [zm 159 20,zw 16 159] (.draw [(zm 161 0,[]),(zm 162 16,[0]),(zm 163 0,[0,1]),(zm 164 16,[0,1,2]),(za 165 1 163 164,[0,1]),(zd 166 1 165,[0,1]),(zm 167 1,[0,1,2,3,4,5]),(zm 168 16,[0,1,2,3,4,5,6]),(za 169 1 167 168,[0,1,2,3,4,5]),(zd 170 1 169,[0,1,2,3,4,5]),(zm 171 15,[0,1,2,3,4,5,6,7,8,9]),(⟨.l 172,.call (kF 310) [(.l 166),(.l 170),(.l 171)],none⟩,[0,1]),(zn 160 172,[0,1]),(ze 173 0 160,[0,1]),(ze 174 1 160,[0,1,13]),(za 175 1 161 162,[14]),(zS 1 175 173,[14]),(zw 15 174,[])]))) (.region [zq 176 .add 20 1,zw 20 176])))
def JA:al:=zR [⟨.p 2,.mv (kU 0),none⟩] (zR [zm 19 1,zl 20 19,zw 3 20] (zR [⟨.p 4,.mv (kU 0),none⟩,⟨.p 5,.mv (kU 0),none⟩] (zR [⟨.p 6,.mv (kU 0),none⟩] (.seq (.seq (.draw [(zm 21 0,[]),(zm 22 3,[0]),(za 23 1 21 22,[]),(zd 24 1 23,[]),(zm 25 1,[0,1,2,3]),(zm 26 3,[0,1,2,3,4]),(zc 27 .sub 26 1,[0,1,2,3,4]),(za 28 1 25 27,[0,1,2,3]),(zd 29 1 28,[0,1,2,3]),(zb 30 .geq 24 29,[])]) (.cond (.l 30) (zR [⟨.p 4,.mv (kU 18446744073709551615),none⟩] (.draw [(zm 32 0,[]),(zm 33 3,[0]),(zc 34 .sub 33 1,[0]),(za 35 1 32 34,[]),(zd 36 1 35,[]),(zm 37 1,[0,1,2,3,4]),(zm 38 3,[0,1,2,3,4,5]),(zc 39 .sub 38 1,[0,1,2,3,4,5]),(za 40 1 37 39,[0,1,2,3,4]),(zd 41 1 40,[0,1,2,3,4]),(⟨.l 42,.call (kF 310) [(.l 36),(.l 41),(kU 0)],none⟩,[]),(zn 31 42,[]),(ze 43 0 31,[]),(ze 44 1 31,[12]),(zw 5 43,[13]),(zw 6 44,[])])) (.draw [(zm 46 0,[]),(zm 47 3,[0]),(za 48 1 46 47,[]),(zd 49 1 48,[]),(zm 50 0,[0,1,2,3]),(zm 51 3,[0,1,2,3,4]),(zc 52 .sub 51 1,[0,1,2,3,4]),(za 53 1 50 52,[0,1,2,3]),(zd 54 1 53,[0,1,2,3]),(zm 55 1,[0,1,2,3,4,5,6,7,8]),(zm 56 3,[0,1,2,3,4,5,6,7,8,9]),(zc 57 .sub 56 1,[0,1,2,3,4,5,6,7,8,9]),(za 58 1 55 57,[0,1,2,3,4,5,6,7,8]),(zd 59 1 58,[0,1,2,3,4,5,6,7,8]),(⟨.l 60,.call (kF 287) [(.l 49),(.l 54),(.l 59)],none⟩,[]),(zn 45 60,[]),(ze 61 0 45,[]),(ze 62 1 45,[16]),(zw 4 61,[17]),(zw 5 62,[])]))) (.seq (.block 0 (.loop Dx)) (zR [⟨.p 9,.mv (kU 0),none⟩,⟨.p 10,.mv (kU 0),none⟩] (.seq (zR [⟨.p 17,.mv (.p 3),none⟩,zi 18 0] (.block 2 (.loop td))) (zR [zm 141 0,zm 142 3,zm 143 0,zm 144 3,za 145 1 143 144,zd 146 1 145,zm 147 10,zm 148 9,⟨.l 149,.call (kF 330) [(.l 146),(.l 147),(.l 148)],none⟩,zn 140 149,ze 150 0 140,ze 151 1 140,za 152 1 141 142,zS 1 152 150,zw 9 151] (.seq (zR [zm 153 9,⟨.l 154,.bin .eql (.l 153) (kU 0),none⟩] (.cond (.l 154) (zR [zm 155 4,zw 2 155] (.ret)) (.skip))) (zR [⟨.p 15,.mv (kU 0),none⟩] (.seq (zR [⟨.p 19,.mv (.p 3),none⟩,zi 20 0] (.block 4 (.loop tg))) (zR [zm 177 0,zm 178 3,za 179 1 177 178,zd 180 1 179,zm 181 15,zb 182 .add 180 181,za 183 1 177 178,zS 1 183 182] (zR [zm 184 4,⟨.l 185,.bin .sub (.l 184) (kU 1),none⟩,zw 2 185] (.ret))))))))))))))
theorem VF:FT 291=some ⟨186,[0,1,4,5,6,7,8,9,10,11,12,13,14,15,16,17,18,104,105,156,157],[.var (.p 2)],JA⟩:=by kernel_rfl
def wX:al:=zR [zr 23 .lss 8 7] (.seq (.cond (.l 23) (.skip) (.exit 0)) (.seq (.block 1 (zR [zm 24 8,zw 5 24] (zR [⟨.p 6,.mv (kU 0),none⟩] (.seq (zR [zm 25 5,zm 26 1,zl 27 26,zb 28 .lss 25 27] (.cond (.l 28) (.region [zm 29 1,zm 30 5,za 31 1 29 30,zd 32 1 31,zw 6 32]) (.skip))) (.region [zm 34 3,zm 35 5,zm 36 0,zm 37 5,za 38 1 36 37,zd 39 1 38,zm 40 6,zm 41 4,⟨.l 42,.call (kF 310) [(.l 39),(.l 40),(.l 41)],none⟩,zn 33 42,ze 43 0 33,ze 44 1 33,za 45 1 34 35,zS 1 45 43,zw 4 44]))))) (.region [zq 46 .add 8 1,zw 8 46])))
def JB:al:=zR [⟨.p 2,.mv (.c (.ah)),none⟩] (.seq (zR [zm 9 0,zl 10 9,zm 11 1,zl 12 11,zb 13 .lss 10 12] (.cond (.l 13) (.region [zm 14 1,zm 15 0,zw 0 14,zw 1 15]) (.skip))) (zR [zm 16 0,zl 17 16,zc 18 .add 17 1,⟨.l 19,.iB 274 1 8 [.uV (0)] (.l 18) (.l 18),none⟩,zw 3 19] (zR [⟨.p 4,.mv (kU 0),none⟩] (.seq (zR [zm 20 0,⟨.p 7,.len .sl (.l 20),none⟩,zi 8 0] (.block 0 (.loop wX))) (zR [zm 47 3,zm 48 0,zl 49 48,zm 50 4,za 51 1 47 49,zS 1 51 50] (zR [zm 52 3,z1 53 288 52,zw 2 53] (.ret)))))))
theorem VG:FT 308=some ⟨54,[0,1,4,5,6,7,8,21,22],[.var (.p 2)],JB⟩:=by kernel_rfl
def wY:al:=zR [zr 15 .lss 8 7] (.seq (.cond (.l 15) (.skip) (.exit 0)) (.seq (.block 1 (zR [zm 16 8,zw 5 16] (zR [⟨.p 6,.mv (kU 0),none⟩] (.seq (zR [zm 17 5,zm 18 1,zl 19 18,zb 20 .lss 17 19] (.cond (.l 20) (.region [zm 21 1,zm 22 5,za 23 1 21 22,zd 24 1 23,zw 6 24]) (.skip))) (.region [zm 26 3,zm 27 5,zm 28 0,zm 29 5,za 30 1 28 29,zd 31 1 30,zm 32 6,zm 33 4,⟨.l 34,.call (kF 330) [(.l 31),(.l 32),(.l 33)],none⟩,zn 25 34,ze 35 0 25,ze 36 1 25,za 37 1 26 27,zS 1 37 35,zw 4 36]))))) (.region [zq 38 .add 8 1,zw 8 38])))
def JC:al:=zR [⟨.p 2,.mv (.c (.ah)),none⟩] (zR [zm 9 0,zl 10 9,⟨.l 11,.iB 274 1 8 [.uV (0)] (.l 10) (.l 10),none⟩,zw 3 11] (zR [⟨.p 4,.mv (kU 0),none⟩] (.seq (zR [zm 12 0,⟨.p 7,.len .sl (.l 12),none⟩,zi 8 0] (.block 0 (.loop wY))) (zR [zm 39 3,z1 40 288 39,zw 2 40] (.ret)))))
theorem VH:FT 309=some ⟨41,[0,1,4,5,6,7,8,13,14],[.var (.p 2)],JC⟩:=by kernel_rfl
def JD:al:=zR [⟨.p 1,.mv (kU 0),none⟩] (.seq (zR [zm 3 0,zc 4 .lss 3 0] (.cond (.l 4) (zR [zm 5 0,⟨.l 6,.un .neg (.l 5),none⟩,⟨.l 7,.gW .u64 (.l 6),none⟩,zw 1 7] (.ret)) (.skip))) (zR [zm 8 0,⟨.l 9,.gW .u64 (.l 8),none⟩,zw 1 9] (.ret)))
theorem VI:FT 260=some ⟨10,[0,2],[.var (.p 1)],JD⟩:=by kernel_rfl
def wZ:al:=zR [zx 1 171 2 0,⟨.p 2,.mv (.c (.bool false)),none⟩,⟨.p 3,.mv (.c (.ah)),none⟩] (.seq (.block 0 (zR [zf 5 1 1,zd 6 1 5,⟨.l 7,.eq true (.ref .slice) (.l 6) (.c (.ah)),none⟩,zn 4 7] (.cond (.l 4) (.seq (.draw [(zf 8 0 1,[]),(zd 9 1 8,[]),(zc 10 .lss 9 0,[]),(zf 11 1 1,[0,1,2]),(zd 12 1 11,[0,1,2]),(zw 2 10,[3,4]),(zw 3 12,[])]) (.ret)) (zR [zf 14 0 1,zd 15 1 14,zc 16 .eql 15 0,zn 13 16] (.cond (.l 13) (zR [⟨.p 2,.mv (.c (.bool false)),none⟩,⟨.p 3,.mv (.c (.ah)),none⟩] (.ret)) (.skip)))))) (.seq (.draw [(zf 17 0 1,[]),(zd 18 1 17,[]),(zc 19 .lss 18 0,[]),(zf 20 0 1,[0,1,2]),(zd 21 1 20,[0,1,2]),(z1 22 260 21,[0,1,2]),(⟨.l 23,.dW 274 1 1 [.uV (0)] [(0,1,(.l 22))],none⟩,[0,1,2]),(zw 2 19,[6]),(zw 3 23,[])]) (.ret)))
theorem Dy:FT 219=some ⟨24,[0,1,2,3],[.var (.p 2),.var (.p 3)],wZ⟩:=by kernel_rfl
def qY:al:=zR [⟨.p 2,.alloc 171 [.iV (0),.ah],none⟩] (.seq (.block 0 (zR [zm 6 1,zl 7 6,zc 8 .eql 7 0,zn 5 8] (.cond (.l 5) (zR [⟨.l 9,.build [.iV (0),.ah] [],none⟩,zs 2 2 9] (.ret)) (zR [zm 11 1,zl 12 11,zc 13 .eql 12 1,zn 14 13,zg (zm 15 1) 14 true,⟨.l 16,.dE none 1 (.l 15) (kI 0),some ((.l 14),true)⟩,zg (zd 17 1 16) 14 true,⟨.l 18,.bin .leq (.l 17) (kU 9223372036854775807),some ((.l 14),true)⟩,zp 19 14 18,zn 20 19,zg (zm 21 0) 20 true,zp 22 20 21,zn 10 22] (.cond (.l 10) (zR [zm 23 1,⟨.l 24,.dE none 1 (.l 23) (kI 0),none⟩,zd 25 1 24,⟨.l 26,.gW .i64 (.l 25),none⟩,⟨.l 27,.un .neg (.l 26),none⟩,⟨.l 28,.build [.iV (0),.ah] [(0,1,(.l 27))],none⟩,zs 2 2 28] (.ret)) (zR [zm 30 1,zl 31 30,zc 32 .eql 31 1,zn 33 32,zg (zm 34 1) 33 true,⟨.l 35,.dE none 1 (.l 34) (kI 0),some ((.l 33),true)⟩,zg (zd 36 1 35) 33 true,⟨.l 37,.bin .leq (.l 36) (kU 9223372036854775807),some ((.l 33),true)⟩,zp 38 33 37,zn 29 38] (.cond (.l 29) (zR [zm 39 1,⟨.l 40,.dE none 1 (.l 39) (kI 0),none⟩,zd 41 1 40,⟨.l 42,.gW .i64 (.l 41),none⟩,⟨.l 43,.build [.iV (0),.ah] [(0,1,(.l 42))],none⟩,zs 2 2 43] (.ret)) (zR [zm 45 0,zn 44 45] (.cond (.l 44) (zR [zm 46 1,⟨.l 47,.build [.iV (0),.ah] [(0,1,(kI (-1))),(1,1,(.l 46))],none⟩,zs 2 2 47] (.ret)) (.skip)))))))))) (zR [zm 48 1,⟨.l 49,.build [.iV (0),.ah] [(0,1,(kI 1)),(1,1,(.l 48))],none⟩,zs 2 2 49] (.ret)))
theorem th:FT 261=some ⟨50,[0,1,4],[.cell 2 true (.p 2)],qY⟩:=by kernel_rfl
def JE:al:=zR [⟨.p 2,.mv (kU 0),none⟩,⟨.p 3,.mv (kU 0),none⟩] (zR [zm 14 0,⟨.l 15,.bin .and (.l 14) (kU 4294967295),none⟩,zw 4 15] (zR [zm 16 0,⟨.l 17,.bin .shr (.l 16) (kU 32),none⟩,zw 5 17] (zR [zm 18 1,⟨.l 19,.bin .and (.l 18) (kU 4294967295),none⟩,zw 6 19] (zR [zm 20 1,⟨.l 21,.bin .shr (.l 20) (kU 32),none⟩,zw 7 21] (zR [zm 22 4,zm 23 6,zb 24 .mul 22 23,zw 8 24] (zR [zm 25 5,zm 26 6,zb 27 .mul 25 26,zm 28 8,⟨.l 29,.bin .shr (.l 28) (kU 32),none⟩,zb 30 .add 27 29,zw 9 30] (zR [zm 31 9,⟨.l 32,.bin .and (.l 31) (kU 4294967295),none⟩,zw 10 32] (zR [zm 33 9,⟨.l 34,.bin .shr (.l 33) (kU 32),none⟩,zw 11 34] (zR [zm 35 10,zm 36 4,zm 37 7,zb 38 .mul 36 37,zb 39 .add 35 38,zw 10 39] (zR [zm 40 5,zm 41 7,zb 42 .mul 40 41,zm 43 11,zb 44 .add 42 43,zm 45 10,⟨.l 46,.bin .shr (.l 45) (kU 32),none⟩,zb 47 .add 44 46,zw 2 47] (zR [zm 48 0,zm 49 1,zb 50 .mul 48 49,zw 3 50] (.ret))))))))))))
theorem VJ:FT 259=some ⟨51,[0,1,4,5,6,7,8,9,10,11,12,13],[.var (.p 2),.var (.p 3)],JE⟩:=by kernel_rfl
def xc:al:=.seq (zR [zm 67 12,⟨.l 68,.bin .geq (.l 67) (kU 4294967296),none⟩,zn 69 68,zg (zm 70 12) 69 false,zg (zm 71 7) 69 false,zg (zb 72 .mul 70 71) 69 false,zg (zm 73 13) 69 false,⟨.l 74,.bin .mul (kU 4294967296) (.l 73),some ((.l 69),false)⟩,zg (zm 75 10) 69 false,zg (zb 76 .add 74 75) 69 false,zg (zb 77 .gtr 72 76) 69 false,zP 78 69 77] (.cond (.l 78) (.skip) (.exit 0))) (.block 1 (zR [zm 79 12,⟨.l 80,.bin .sub (.l 79) (kU 1),none⟩,zw 12 80] (zR [zm 81 13,zm 82 6,zb 83 .add 81 82,zw 13 83] (zR [zm 84 13,⟨.l 85,.bin .geq (.l 84) (kU 4294967296),none⟩] (.cond (.l 85) (.exit 0) (.skip))))))
def xe:al:=.seq (zR [zm 102 15,⟨.l 103,.bin .geq (.l 102) (kU 4294967296),none⟩,zn 104 103,zg (zm 105 15) 104 false,zg (zm 106 7) 104 false,zg (zb 107 .mul 105 106) 104 false,zg (zm 108 13) 104 false,⟨.l 109,.bin .mul (kU 4294967296) (.l 108),some ((.l 104),false)⟩,zg (zm 110 11) 104 false,zg (zb 111 .add 109 110) 104 false,zg (zb 112 .gtr 107 111) 104 false,zP 113 104 112] (.cond (.l 113) (.skip) (.exit 2))) (.block 3 (zR [zm 114 15,⟨.l 115,.bin .sub (.l 114) (kU 1),none⟩,zw 15 115] (zR [zm 116 13,zm 117 6,zb 118 .add 116 117,zw 13 118] (zR [zm 119 13,⟨.l 120,.bin .geq (.l 119) (kU 4294967296),none⟩] (.cond (.l 120) (.exit 2) (.skip))))))
def JF:al:=zR [⟨.p 3,.mv (kU 0),none⟩,⟨.p 4,.mv (kU 0),none⟩] (.seq (zR [zm 19 2,⟨.l 20,.bin .eql (.l 19) (kU 0),none⟩] (.cond (.l 20) (.bad) (.skip))) (.seq (zR [zm 22 2,zm 23 0,zb 24 .leq 22 23] (.cond (.l 24) (.bad) (.skip))) (.seq (zR [zm 26 0,⟨.l 27,.bin .eql (.l 26) (kU 0),none⟩] (.cond (.l 27) (.seq (.draw [(zm 28 1,[]),(zm 29 2,[0]),(zb 30 .quo 28 29,[]),(zm 31 1,[0,1,2]),(zm 32 2,[0,1,2,3]),(zb 33 .rem 31 32,[0,1,2]),(zw 3 30,[3,4,5]),(zw 4 33,[])]) (.ret)) (.skip))) (zR [zm 34 2,z1 35 289 34,⟨.l 36,.gW .u64 (.l 35),none⟩,zw 5 36] (zR [zm 37 2,zm 38 5,zb 39 .shl 37 38,zw 2 39] (zR [zm 40 2,⟨.l 41,.bin .shr (.l 40) (kU 32),none⟩,zw 6 41] (zR [zm 42 2,⟨.l 43,.bin .and (.l 42) (kU 4294967295),none⟩,zw 7 43] (zR [zm 44 0,zm 45 5,zb 46 .shl 44 45,zm 47 1,zm 48 5,⟨.l 49,.bin .sub (kU 64) (.l 48),none⟩,zb 50 .shr 47 49,zb 51 .or 46 50,zw 8 51] (zR [zm 52 1,zm 53 5,zb 54 .shl 52 53,zw 9 54] (zR [zm 55 9,⟨.l 56,.bin .shr (.l 55) (kU 32),none⟩,zw 10 56] (zR [zm 57 9,⟨.l 58,.bin .and (.l 57) (kU 4294967295),none⟩,zw 11 58] (zR [zm 59 8,zm 60 6,zb 61 .quo 59 60,zw 12 61] (zR [zm 62 8,zm 63 12,zm 64 6,zb 65 .mul 63 64,zb 66 .sub 62 65,zw 13 66] (.seq (.block 0 (.loop xc)) (zR [zm 86 8,⟨.l 87,.bin .mul (.l 86) (kU 4294967296),none⟩,zm 88 10,zb 89 .add 87 88,zm 90 12,zm 91 2,zb 92 .mul 90 91,zb 93 .sub 89 92,zw 14 93] (zR [zm 94 14,zm 95 6,zb 96 .quo 94 95,zw 15 96] (zR [zm 97 14,zm 98 15,zm 99 6,zb 100 .mul 98 99,zb 101 .sub 97 100,zw 13 101] (.seq (.block 2 (.loop xe)) (zR [zm 121 12,⟨.l 122,.bin .mul (.l 121) (kU 4294967296),none⟩,zm 123 15,zb 124 .add 122 123,zm 125 14,⟨.l 126,.bin .mul (.l 125) (kU 4294967296),none⟩,zm 127 11,zb 128 .add 126 127,zm 129 15,zm 130 2,zb 131 .mul 129 130,zb 132 .sub 128 131,zm 133 5,zb 134 .shr 132 133,zw 3 124,zw 4 134] (.ret))))))))))))))))))))
theorem VK:FT 287=some ⟨135,[0,1,2,6,7,8,9,10,11,12,13,14,15,16,17,18],[.var (.p 3),.var (.p 4)],JF⟩:=by kernel_rfl
def JG:al:=zR [zi 1 0] (zR [zm 3 0,z1 4 252 3,⟨.l 5,.bin .sub (kI 64) (.l 4),none⟩,zw 1 5] (.ret))
theorem VM:FT 289=some ⟨6,[0,2],[.var (.p 1)],JG⟩:=by kernel_rfl
end Go.Ab.Ch5.N

/-
  Own work: numbers by their digits to a base, the least significant one first: values, parts, changes of a digit, the length without zeros.
-/
namespace Go.Ab.bB
def WV (b:Int):List Int->Int
 | []=>0
 | x::l=>x+b*WV b l
def okW (b:Int)(l:List Int):Prop:=∀x∈l,0<=x/\x<b
theorem jr {b:Int}:okW b []:=fun x hx=>by cases hx
theorem JH {b x:Int}{l:List Int}(h:okW b (x::l)):(0<=x/\x<b)/\okW b l:=⟨h x ax,fun y hy=>h y (by simp[hy])⟩
theorem cL {b:Int}{l:List Int}(h:okW b l){i:Nat}(hi:i<l.length):0<=l[i]! /\ l[i]! < b:=h _ (by rw[getElem!_pos l i hi];exact List.getElem_mem hi)
theorem hJ {b:Int}{l:List Int}(h:okW b l){i:Nat}{v:Int}(hv:0<=v/\v<b):okW b (l.set i v):=fun x hx=>by
 rcases List.mem_or_eq_of_mem_set hx with hx|rfl
 . exact h x hx
 . exact hv
theorem eC {b:Int}{l:List Int}(h:okW b l)(n:Nat):okW b (l.take n):=fun x hx=>h x (List.mem_of_mem_take hx)
theorem jO {b:Int}{l:List Int}(h:okW b l)(n:Nat):okW b (l.drop n):=fun x hx=>h x (List.mem_of_mem_drop hx)
theorem ki {b:Int}{l m:List Int}(h:okW b l)(k:okW b m):okW b (l++m):=fun x hx=>by
 rcases List.mem_append.1 hx with hx|hx
 . exact h x hx
 . exact k x hx
theorem lJ {b:Int}(hb:0<b){n:Nat}:okW b (c9 n 0):=fun x hx=>by
 rw[(j7.1 hx).2];omega
theorem gE {b:Int}:∀{l m:List Int},WV b (l++m)=WV b l+b^l.length*WV b m
 | [],m=>by simp[WV]
 | x::l,m=>by
  rw[mp,WV,WV,gE,gC,cT];grind
theorem mG {b:Int}{l:List Int}{i:Nat}(h:i<=l.length):WV b l=WV b (l.take i)+b^i*WV b (l.drop i):=by
 have:=gE (b:=b) (l:=l.take i) (m:=l.drop i);rwa [f6,ce,de h]at this
theorem fT {b:Int}{l:List Int}{i:Nat}(h:i<l.length):WV b (l.take (i+1))=WV b (l.take i)+b^i*l[i]! := by
 rw[kT,gF h,getElem!_pos l i h,j8,gE,ce,de ac];simp[WV]
theorem po {b:Int}{l:List Int}{i:Nat}(h:i<l.length):WV b (l.drop i)=l[i]! + b*WV b (l.drop (i+1)):=by
 rw[d6 h,getElem!_pos l i h,WV]
theorem JI {b:Int}:∀{l:List Int},(∀x∈l,x=0)->WV b l=0
 | [],_=>rfl
 | x::l,h=>by rw[WV,h x ax,JI fun y hy=>h y (by simp[hy])];simp
theorem lK {b:Int}{n:Nat}:WV b (c9 n 0)=0:=JI fun _x hx=>(j7.1 hx).2
theorem hZ {b:Int}:∀{l:List Int} {i:Nat} {v:Int},i<l.length->WV b (l.set i v)=WV b l+b^i*(v-l[i]!)
 | [],i,v,h=>by simp at h
 | x::l,0,v,h=>by simp[WV];omega
 | x::l,i+1,v,h=>by
  have e:(x::l)[i+1]! = l[i]! := by simp[ci]
  rw[j9,WV,WV,hZ (by simpa using h),e,cT];grind
theorem ti {b:Int}(hb:0<b)(n:Nat):0<b^n:=cP hb
theorem cX {b:Int}(hb:0<b):∀{l:List Int},okW b l->0<=WV b l
 | [],_=>Int.le_refl _
 | x::l,h=>by
  obtain⟨h1,h2⟩:=JH h;have:=dc (b9 hb) (cX hb h2);rw[WV];omega
theorem dU {b:Int}(hb:0<b):∀{l:List Int},okW b l->WV b l<b^l.length
 | [],_=>by simp[WV]
 | x::l,h=>by
  obtain⟨h1,h2⟩:=JH h;have h3:=dU hb h2;have h4:b*(WV b l+1)<=b*b^l.length:=br ac (b9 hb);rw[WV,gC,cT,cD (b^l.length) b];rw[cZ]at h4;omega
theorem iS {b:Int}(hb:1<b){m n:Nat}(h:m<=n):b^m<=b^n:=by
 obtain⟨k,rfl⟩:∃k,n=m+k:=⟨n-m,ac⟩;rw[eL];have h1:=ti (show 0<b by omega) m;have h2:=ti (show 0<b by omega) k;have h3:b^m*1<=b^m*b^k:=br ac (b9 h1);omega
def bh:List Int->Nat
 | []=>0
 | x::l=>if bh l=0 then (if x=0 then 0 else 1) else bh l+1
theorem js:∀{l:List Int},bh l<=l.length
 | []=>bA _
 | x::l=>by
  have:=js (l:=l);rw[bh,gC]
  (repeat' split) <;> omega
theorem JJ:∀{l:List Int} {x:Int},bh (l++[x])=if x=0 then bh l else l.length+1
 | [],x=>by simp[bh]
 | y::l,x=>by
  rw[mp,bh,JJ,bh,gC];by_cases hx:x=0
  . simp[hx]
  . simp[hx]
theorem pq {l:List Int}{i:Nat}(h:i<l.length):bh (l.take (i+1))=if l[i]! = 0 then bh (l.take i) else i+1:=by
 rw[kT,gF h,getElem!_pos l i h,j8,JJ,ce,de ac]
theorem xf {b:Int}:∀{l:List Int},WV b (l.take (bh l))=WV b l
 | []=>rfl
 | x::l=>by
  have ih:=xf (b:=b) (l:=l);rw[bh];by_cases h:bh l=0
  . rw[h]at ih;rw[if_pos h,WV,←ih];by_cases hx:x=0
    . rw[if_pos hx,hx];simp[WV]
    . rw[if_neg hx];simp[WV]
  . rw[if_neg h,j5,WV,WV,ih]
def bg (l:List Int):Prop:=bh l=l.length
theorem kR:bg []:=rfl
theorem Dz:∀{l:List Int},bg (l.take (bh l))
 | []=>rfl
 | x::l=>by
  have ih:=Dz (l:=l);have hle:=js (l:=l);rw[bh];by_cases h:bh l=0
  . rw[if_pos h];by_cases hx:x=0
    . rw[if_pos hx];rfl
    . rw[if_neg hx];simp[bg,bh,hx]
  . rw[if_neg h,j5];unfold bg at ih ⊢;rw[ce,de hle]at ih;rw[bh,gC,ce,de hle,ih,if_neg h]
theorem pr {l:List Int}(h:bg l)(h0:0<l.length):l[l.length-1]! ≠ 0:=fun e=>by
 have:=pq (l:=l) (i:=l.length-1) ac;rw[show l.length-1+1=l.length by omega,d7,if_pos e]at this;have h2:=js (l:=l.take (l.length-1));rw[ce]at h2;unfold bg at h;omega
theorem DA {l:List Int}(h:0<l.length):bg l↔l[l.length-1]! ≠ 0:=by
 refine⟨fun hn=>pr hn h,fun e=>?_⟩;have:=pq (l:=l) (i:=l.length-1) ac;rw[show l.length-1+1=l.length by omega,d7,if_neg e]at this;exact this
theorem qZ {b:Int}(hb:1<b){l:List Int}(ok:okW b l)(h:bg l)(h0:0<l.length):b^(l.length-1)<=WV b l:=by
 have e:=mG (b:=b) (l:=l) (i:=l.length-1) ac;have h1:=cX ac (eC ok (l.length-1));have h2:=po (b:=b) (l:=l) (i:=l.length-1) ac;rw[show l.length-1+1=l.length by omega,jt,WV,c6,d8]at h2;have h3:=pr h h0;have h4:=cL ok (i:=l.length-1) ac;rw[h2]at e;have h5:=ti (show 0<b by omega) (l.length-1);have h6:b^(l.length-1)*1<=b^(l.length-1)*l[l.length-1]! := br ac (b9 h5);omega
theorem jP {b:Int}(hb:1<b){l:List Int}(ok:okW b l)(h:bg l):0<WV b l↔l≠[]:=by
 constructor
 . rintro h1 rfl;simp[WV]at h1
 . intro h1;have h0:0<l.length:=List.length_pos_iff.2 h1;have:=qZ hb ok h h0;have:=ti (show 0<b by omega) (l.length-1);omega
theorem pt {b:Int}(hb:1<b){l m:List Int}(okl:okW b l)(okm:okW b m)(hm:bg m)(h:l.length<m.length):WV b l<WV b m:=by
 have h1:=dU ac okl;have h2:=qZ hb okm hm ac;have h3:=iS hb (show l.length<=m.length-1 by omega);omega
theorem ib {b:Int}(hb:1<b){l:List Int}(ok:okW b l)(h:bg l){n:Nat}(hv:WV b l<b^n):l.length<=n:=by
 rcases k9 n l.length with h1|h1
 . have h2:=qZ hb ok h ac;have h3:=iS hb (show n<=l.length-1 by omega);omega
 . exact h1
end Go.Ab.bB

/-
  Own work: words of 64 binary digits: the product of two words.
-/
namespace Go.Ab.Ch5.N
open Go.Ab.bB
variable {M:ay} {cap c1 c2:Option Nat}
theorem VN {x y:Int}(hx:0<=x/\x<18446744073709551616)(hy:0<=y/\y<18446744073709551616) :
 let x0:=x%4294967296;let x1:=x/4294967296;let y0:=y%4294967296;let y1:=y/4294967296
 (0<=x0*y0/\x0*y0<=18446744065119617025)/\(0<=x1*y0/\x1*y0<=18446744065119617025)/\(0<=x0*y1/\x0*y1<=18446744065119617025)/\(0<=x1*y1/\x1*y1<=18446744065119617025) /\
   x*y=x1*y1*18446744073709551616+(x1*y0+x0*y1)*4294967296+x0*y0:=by
 intro x0 x1 y0 y1;have a0:0<=x0/\x0<=4294967295:=by omega
 have a1:0<=x1/\x1<=4294967295:=by omega
 have b0:0<=y0/\y0<=4294967295:=by omega
 have b1:0<=y1/\y1<=4294967295:=by omega
 have up:∀{a b:Int},0<=a/\a<=4294967295->0<=b/\b<=4294967295->0<=a*b/\a*b<=18446744065119617025:=fun {a b} ha hb=>
  ⟨dc ha.1 hb.1,by have:=iq ha.2 hb.2 hb.1 ac;omega⟩
 refine⟨up a0 b0,up a1 b0,up a0 b1,up a1 b1,?_⟩;have ex:x=x1*4294967296+x0:=by omega
 have ey:y=y1*4294967296+y0:=by omega
 generalize x0=x0 at *
 generalize x1=x1 at *
 generalize y0=y0 at *
 generalize y1=y1 at *
 subst ex;subst ey;grind
theorem VP (hft:M.FT=FT)(x y:Int)(hx:0<=x/\x<18446744073709551616)(hy:0<=y/\y<18446744073709551616):bm M 259 [.uV x,.uV y] [] ⟨.aw [.uV (x*y/18446744073709551616),.uV (x*y%18446744073709551616)],[],[]⟩:=by
 obtain⟨p0,p1,p2,p3,e⟩:=VN hx hy;refine bX (by rw[hft];exact VJ) ax ?_;unfold JE;simp only[enter];repeat' first|(apply ajx;rfl;rfl;omega)|(apply aiX (n:=32) (c:=4294967296);rfl;rfl;rfl;decide;rfl)|(apply aiA;rfl;rfl;exact⟨ac,ac⟩)|(apply aiC;rfl;rfl;exact⟨ac,ac⟩)|(apply ajh;rfl;rfl)|apply abx|apply aa|apply abr|apply aaL|apply acG|(apply abA;rfl;rfl)|(apply abC;rfl;rfl)
 refine⟨.inr rfl,rfl,_,rfl,?_,rfl⟩;refine congrArg (fun u=>AV.aw [.uV u,.uV (x*y%18446744073709551616)]) ?_;omega
abbrev uC (x:Int):List AV:=[.uV x]
abbrev aq (l:List Int):List AV:=arr uC l
abbrev wB:Int:=18446744073709551616
theorem JK {l:List Int}:(aq l).length=l.length:=by
 have:=lH (f:=uC) (esz:=1) (fun _=>rfl) l;simpa using this
theorem VQ {l:List Int}{m:Nat}(h:m<l.length):(aq l)[m]? = some (.uV l[m]!):=by
 induction l generalizing m with
 | nil=>simp at h
 | cons x l ih=>
  cases m with
  | zero=>rfl
  | succ m=>
   have e:(x::l)[m+1]! = l[m]! := by simp[ci]
   rw[e,←ih (by simpa using h)];rfl
section
variable {t b m:Nat} {x y:aZ} {l:List bz} {pe:List AV} {lo:List (Nat×AV)} {hp:ab} {df wr:List Nat} {L:List Int} {e:TypeId} {v:Int} {Q:au->Prop}
theorem aiM (hx:(St.mk pe lo hp df).ae x=some (.ptr b m))(hb:hp.at b=some (.cells (aq L) e))(hi:m<L.length)
 (h:WO M l ⟨⟨pe,(t,.uV L[m]!)::lo,hp,df⟩,wr⟩ Q):WO M (⟨.l t,.load 1 false x,none⟩::l) ⟨⟨pe,lo,hp,df⟩,wr⟩ Q:=by
 refine aiN (c:=aq L) (o:=m) (e:=e) (v:=.uV L[m]!) hx hb ?_ h;have h1:=VQ hi;have h2:m<(aq L).length:=by rw[JK];exact hi
 rw[d6 h2];rw[gF h2]at h1;rw[Option.some.inj h1];rfl
theorem VR {L:List Int}{m:Nat}{v:Int}(h:m<L.length):overwrite (aq L) m (uC v)=aq (L.set m v):=by
 induction L generalizing m with
 | nil=>simp at h
 | cons x L ih=>
  cases m with
  | zero=>simp[overwrite,arr]
  | succ m=>
   have:=ih (m:=m) (by simpa using h);simp only[j9];have e1:aq (x::L) = .uV x::aq L:=rfl;have e2:aq (x::L.set m v) = .uV x::aq (L.set m v):=rfl;rw[e1,e2,←this];simp[overwrite]
theorem aiF (hx:(St.mk pe lo hp df).ae x=some (.ptr b m))(hy:(St.mk pe lo hp df).ae y=some (.uV v))(hb:hp.at b=some (.cells (aq L) e))(hi:m<L.length)
 (h:WO M l ⟨⟨pe,lo,hp.put b (some (.cells (aq (L.set m v)) e)),df⟩,b::wr⟩ Q):WO M (⟨.no,.store 1 x y,none⟩::l) ⟨⟨pe,lo,hp,df⟩,wr⟩ Q:=
 aia (c:=aq L) (new:=uC v) hx (by rw[hy];rfl) hb ⟨rfl,by rw[JK];omega,rfl⟩ (VR hi) h
end
def bY (b n:Nat)(cap:Option Nat):AV:=if 0<n then .sl b 0 n 1 cap else .vs [] 0 cap
theorem ajj {t n r b:Nat}{k:IntKind}{x y:aZ}{l:List bz}{pe:List AV}{lo:List (Nat×AV)}{hp:ab}{df wr:List Nat}{Q:au->Prop}(hx:(St.mk pe lo hp df).ae x=some (.sl b 0 n 1 cap))(hy:(St.mk pe lo hp df).ae y=some (.int k r))(hr:r<=n)(hc:∀c,cap=some c->n<=c)
 (h:WO M l ⟨⟨pe,(t,bY b r cap)::lo,hp,df⟩,wr⟩ Q):WO M (⟨.l t,.slice .sl 1 x none (some y) none,none⟩::l) ⟨⟨pe,lo,hp,df⟩,wr⟩ Q:=by
 have hcap:(0:Int)<=(r:Int)/\(r:Int)<=((cap.getD n:Nat):Int):=by
  refine⟨ac,?_⟩;cases cap with
  | none=>simp;omega
  | some c=>have:=hc c rfl;simp;omega
 have hcc:cap.map (fun x=>x)=cap:=by cases cap <;> simp
 refine abA (v:=bY b r cap) ?_ rfl h;unfold bY;simp only[bF,hx,St.fg,hy,m7,kD,cH,kw,kO,nk,if_true,if_pos hcap,Nat.sub_zero,Nat.zero_mul,Nat.zero_add,f9];split <;> simp[hcc]
theorem VT (hft:M.FT=FT){b n:Nat}{L:List Int}{e:TypeId}{hp:ab}(hb:hp.at b=some (.cells (aq L) e))(hn:n<=L.length)(hl:n<1000000000)(hc:∀c,cap=some c->n<=c) :
 bm M 288 [.sl b 0 n 1 cap] hp ⟨bY b (bh (L.take n)) cap,hp,[]⟩:=by
 have hbl:=gS hb;refine nt (by rw[hft];exact VB) ax (by unfold bY;split <;> simp[AV.top,bO];omega) ?_;unfold Jv;simp only[enter];repeat' first|apply abx|apply aa|apply abr|apply aaL|apply aef|(apply abA;rfl;rfl)|(apply abC;rfl;rfl)
 have fin:∀(r:Nat) a1 lo,r<=n->bY b r cap=bY b (bh (L.take n)) cap->SQ M (zR [zm 18 0,zm 19 2,⟨.l 20,.slice .sl 1 (.l 18) none (some (.l 19)) none,none⟩,zw 1 20] .ret)
  (fun x s=>(x = .normal\/x = .ret)/\s.s.cI=[]/\(∃J,s.s.hp=hp++J)/\(∀x∈s.wr,hp.length<=x)/\∃vs,dK s.s [.var (.p 1)]=some vs/\bk vs=bY b (bh (L.take n)) cap) .normal ⟨⟨[.sl b 0 n 1 cap,a1,.iV r],lo,hp,[]⟩,[]⟩:=fun r a1 lo hr he=>by
  repeat' first|apply abx|apply aa|apply abr|(apply abA;rfl;rfl)
  refine ajj (k:=.i64) rfl rfl hr hc ?_;repeat' first|apply aa|apply aaL|apply acG|(apply abC;rfl;rfl)
  rw[he];exact⟨.inr rfl,rfl,⟨[],ax⟩,ax,_,rfl,rfl⟩
 have loop:∀(r:Nat) lo a1,r<=n->bh (L.take r)=bh (L.take n)->W M (.loop wR) ⟨⟨[.sl b 0 n 1 cap,a1,.iV r],lo,hp,[]⟩,[]⟩ (BQ 0 (SQ M (zR [zm 18 0,zm 19 2,⟨.l 20,.slice .sl 1 (.l 18) none (some (.l 19)) none,none⟩,zw 1 20] .ret)
  (fun x s=>(x = .normal\/x = .ret)/\s.s.cI=[]/\(∃J,s.s.hp=hp++J)/\(∀x∈s.wr,hp.length<=x)/\∃vs,dK s.s [.var (.p 1)]=some vs/\bk vs=bY b (bh (L.take n)) cap))):=by
  intro r;induction r with
  | zero=>
   intro lo a1 hr he;refine W.loop ?_;unfold wR;repeat' first|(refine fin 0 _ _ ac (by rw[←he];rfl))|apply abx|apply aa|apply abr|apply aaL|apply aeM|apply bH|apply bJ|apply cA|(apply acM;rfl)|(apply ahU;rfl)|(apply aeq;rfl;rfl)|(apply aeC;rfl;rfl)|(apply abA;rfl;rfl)|(intro _;omega)|intro _
   all_goals try omega
  | succ r ih=>
   intro lo a1 hr he;have e:=pq (l:=L) (i:=r) ac;have ei:0+((((r+1:Nat):Int)-1).toNat)*1=r:=by omega
   have er:((r+1:Nat):Int)-1=r:=by omega
   refine W.loop ?_;unfold wR;by_cases h0:L[r]! = 0
   . rw[if_pos h0]at e;repeat' first|(apply aiM;exact congrArg (fun z=>some (AV.ptr b z)) ei;exact hb;omega)|apply abx|apply aa|apply abr|apply aaL|apply aef|apply adA|apply bC|(apply acO;rfl)|(apply afg;rfl)|(apply aeq;rfl;rfl)|(apply afe;rfl;rfl)|(apply aeB;rfl;rfl)|(apply afS;rfl;rfl;omega)|(apply aic;rfl;rfl;omega)|(apply abA;rfl;rfl)|(apply abC;rfl;rfl)|(intro _;omega)|intro _
     all_goals try omega
     refine fX ?_;have:=ih ((17,.iV (((r+1:Nat):Int)-1))::(16,.iV ((r+1:Nat):Int))::[]) a1 ac (e.symm.trans he);rw[←er]at this;exact this
   . rw[if_neg h0]at e;repeat' first|(apply aiM;exact congrArg (fun z=>some (AV.ptr b z)) ei;exact hb;omega)|(refine fin (r+1) _ _ ac (by rw[←he,e]))|apply abx|apply aa|apply abr|apply aaL|apply aeM|apply bH|apply bJ|apply cA|(apply acM;rfl)|(apply afg;rfl)|(apply aeq;rfl;rfl)|(apply afe;rfl;rfl)|(apply aeB;rfl;rfl)|(apply afS;rfl;rfl;omega)|(apply aic;rfl;rfl;omega)|(apply abA;rfl;rfl)|(intro _;omega)|intro _
     all_goals try omega
 exact loop n _ _ (bA _) rfl
def bE (x:Int):Int:=if x<0 then -1 else if 0<x then 1 else 0
theorem xg {B:Int}(hB:1<B){a b:List Int}(ha:okW B a)(hb:okW B b){i:Nat}(hi:i<a.length)(hi2:i<b.length)(hd:a.drop (i+1)=b.drop (i+1))(h:a[i]! < b[i]!):WV B a<WV B b:=by
 have e1:=mG (b:=B) (l:=a) (i:=i) ac;have e2:=mG (b:=B) (l:=b) (i:=i) ac;rw[po hi]at e1;rw[po hi2,←hd]at e2;have h1:=dU ac (eC ha i);have h2:=cX ac (eC hb i);rw[ce,de ac]at h1;have h3:B^i*(a[i]! + B*WV B (a.drop (i+1))+1)<=B^i*(b[i]! + B*WV B (a.drop (i+1))):=br ac (b9 (ti ac i));rw[cZ _ _ 1,iH]at h3;omega
theorem VU (hft:M.FT=FT)(a b:List Int)(ha:okW wB a)(hb:okW wB b)(na:bg a)(nb:bg b)(la:a.length<1000000000)(_lb:b.length<1000000000) :
 bm M 286 [.vs (aq a) a.length c1,.vs (aq b) b.length c2] [] ⟨.iV (bE (WV wB a-WV wB b)),[],[]⟩:=by
 have hB:(1:Int)<wB:=by decide
 refine bX (by rw[hft];exact VC) ax ?_;unfold Jw;simp only[enter];by_cases hl:a.length=b.length
 . repeat' first|apply abx|apply aa|apply abr|apply aaL|apply aef|apply adA|(apply acM;rfl)|(apply agx;rfl;rfl)|(apply afS;rfl;rfl;omega)|(apply abA;rfl;rfl)|(apply abC;rfl;rfl)|(intro _;omega)|intro _
   all_goals try omega
   have loop:∀(r:Nat) lo a2,r<=a.length->a.drop r=b.drop r->W M (.loop wS) ⟨⟨[.vs (aq a) a.length c1,.vs (aq b) b.length c2,a2,.iV ((r:Int)-1)],lo,[],[]⟩,[]⟩ (BQ 0 (SQ M (zR [⟨.p 2,.mv (.c (.iV 0)),none⟩] .ret)
    fun e s=>(e = .normal\/e = .ret)/\s.s.cI=[]/\∃vs,dK s.s [.var (.p 2)]=some vs/\bk vs = .iV (bE (WV wB a-WV wB b))/\(if (AV.iV (bE (WV wB a-WV wB b))).top<=0 then [] else s.s.hp)=[])):=by
    intro r;induction r with
    | zero=>
     intro lo a2 hr hd;rw[i8,i8]at hd;refine W.loop ?_;unfold wS;repeat' first|apply abx|apply aa|apply abr|apply aaL|apply acG|apply aeM|apply bH|apply bJ|apply cA|(apply acM;rfl)|(apply ahS;rfl;rfl)|(apply abA;rfl;rfl)|(apply abC;rfl;rfl)|(intro _;omega)|intro _
     all_goals try omega
     exact⟨.inr rfl,rfl,_,rfl,by rw[hd,Int.sub_self];rfl,rfl⟩
    | succ r ih=>
     intro lo a2 hr hd;have er:((r+1:Nat):Int)-1=r:=by omega
     rw[er];refine W.loop ?_;unfold wS;by_cases he:a[((r:Int)).toNat]! = b[((r:Int)).toNat]!
     . have hd2:a.drop r=b.drop r:=by
        rw[d6 (show r<a.length by omega),d6 (show r<b.length by omega),hd,←getElem!_pos a r,←getElem!_pos b r];exact congrArg (· :: _) he
       repeat' first|apply abx|apply aa|apply abr|apply aaL|apply aef|apply adA|apply bC|(apply ahZ;rfl)|(apply acO;rfl)|(apply acM;rfl)|(apply ahS;rfl;rfl)|(apply agx;rfl;rfl)|(apply afS;rfl;rfl;omega)|(apply ahT;rfl;rfl;omega)|(apply aib;rfl;exact fun _=>rfl;(first|omega|(simp only[be];omega)|(simp;omega));decide;rfl;case ia=>infer_instance)|(apply abA;rfl;rfl)|(apply abC;rfl;rfl)|(intro _;omega)|intro _
       all_goals first|contradiction|(omega)|skip
       exact fX (ih _ _ ac hd2)
     . by_cases hlt:a[((r:Int)).toNat]! < b[((r:Int)).toNat]!
       . have:=xg hB ha hb (i:=r) ac ac hd hlt;repeat' first|apply abx|apply aa|apply abr|apply aaL|apply aef|apply acG|apply adA|apply ba|apply cn|apply dr|(apply ahZ;rfl)|(apply acO;rfl)|(apply aep;rfl;rfl)|(apply ahS;rfl;rfl)|(apply agx;rfl;rfl)|(apply ahT;rfl;rfl;omega)|(apply aib;rfl;exact fun _=>rfl;(first|omega|(simp only[be];omega)|(simp;omega));decide;rfl;case ia=>infer_instance)|(apply abA;rfl;rfl)|(apply abC;rfl;rfl)|(intro _;omega)|intro _
         all_goals first|contradiction|(omega)|exact⟨.inr rfl,rfl,_,rfl,by rw[bE,if_pos ac];rfl,rfl⟩
       . have:=xg hB hb ha (i:=r) ac ac hd.symm (show b[r]! < a[r]! from by
          have h1:a[r]! ≠ b[r]! := he;have h2:¬a[r]! < b[r]! := hlt;omega)
         repeat' first|apply abx|apply aa|apply abr|apply aaL|apply aef|apply acG|apply adA|apply ba|apply cn|apply dr|(apply ahZ;rfl)|(apply acO;rfl)|(apply acM;rfl)|(apply aep;rfl;rfl)|(apply ahS;rfl;rfl)|(apply agx;rfl;rfl)|(apply ahT;rfl;rfl;omega)|(apply aib;rfl;exact fun _=>rfl;(first|omega|(simp only[be];omega)|(simp;omega));decide;rfl;case ia=>infer_instance)|(apply abA;rfl;rfl)|(apply abC;rfl;rfl)|(intro _;omega)|intro _
         all_goals first|contradiction|(omega)|exact⟨.inr rfl,rfl,_,rfl,by rw[bE,if_neg ac,if_pos ac];rfl,rfl⟩
   exact loop a.length _ _ (bA _) (by rw[jt,hl,jt])
 . by_cases hlt:a.length<b.length
   . have:=pt hB ha hb nb hlt;repeat' first|apply abx|apply aa|apply abr|apply aaL|apply acG|apply ba|(apply acO;rfl)|(apply aep;rfl;rfl)|(apply agx;rfl;rfl)|(apply abA;rfl;rfl)|(apply abC;rfl;rfl)|(intro _;omega)|intro _
     all_goals first|contradiction|(omega)|exact⟨.inr rfl,rfl,_,rfl,by rw[bE,if_pos ac];rfl,rfl⟩
   . have:=pt hB hb ha na ac;repeat' first|apply abx|apply aa|apply abr|apply aaL|apply acG|apply adA|apply ba|(apply acO;rfl)|(apply acM;rfl)|(apply aep;rfl;rfl)|(apply agx;rfl;rfl)|(apply abA;rfl;rfl)|(apply abC;rfl;rfl)|(intro _;omega)|intro _
     all_goals first|contradiction|(omega)|exact⟨.inr rfl,rfl,_,rfl,by rw[bE,if_neg ac,if_pos ac];rfl,rfl⟩
def lM (v:AV)(hh:ab)(r:List Int):Prop:=∃v1,lI hh v v1/\v1.top=0/\cR v1 = .vs (aq r) r.length none
theorem VV (l:List Int):fv (aq l)=aq l:=BT (fun _=>rfl) l
theorem iT (l:List Int):bO (aq l)=0:=oM (fun _=>rfl) l
theorem lM.trim {b:Nat}{L:List Int}{e:TypeId}{hp:ab}{n:Nat}(hb:hp.at b=some (.cells (aq L) e))(hn:n<=L.length):lM (bY b (bh (L.take n)) cap) (if (bk [bY b (bh (L.take n)) cap]).top<=0 then [] else hp) (L.take (bh (L.take n))):=by
 have hle:=js (l:=L.take n);rw[ce]at hle;obtain⟨k,hk⟩:∃k,k=bh (L.take n):=⟨_,rfl⟩;rw[←hk]at hle ⊢;by_cases h0:0<k
 . have e1:bY b k cap = .sl b 0 k 1 cap:=if_pos h0;rw[e1,if_neg (by simp[bk,AV.top])];have hl:(L.take k).length=k:=by rw[ce];omega
   have hF:Fr hp [b] (.sl b 0 k 1 cap) (.vs (aq (L.take k)) k none):=by
    refine .sl (m:=aq (L.take k)) (gT.2 rfl) hb ?_ rfl (fun i x y hx hy=>?_) (.inr rfl)
    . have:=mE (f:=uC) (esz:=1) (fun _=>rfl) (l:=L) (i:=0) (n:=k) ac;simpa using this
    . rw[hx]at hy;cases hy;exact .same (dj (iT _) hx)
   unfold lM;rw[hl];refine⟨_,⟨[b],hF,rfl,fun c l' e' hc hl'=>?_⟩,iT _,by rw[cR,VV]⟩;rw[gT.1 hc,hb]at hl';cases hl';exact qK (fun _=>rfl) _
 . obtain rfl:k=0:=by omega
   exact⟨.vs [] 0 cap,.same rfl rfl,rfl,rfl⟩
theorem lO {n k:Nat}:(c9 n (0:Int))[k]! = 0:=by
 rw[ci,List.getElem?_replicate];split <;> rfl
theorem iJ {L:List Int}{i k:Nat}{v:Int}(h:i≠k):(L.set i v)[k]! = L[k]! := by
 rw[ci,ci,j3 h]
theorem xh {L:List Int}{i:Nat}{v:Int}(h:i<L.length):(L.set i v)[i]! = v:=by
 rw[ci,List.getElem?_set_self h];rfl
structure nE (M:ay):Prop where
 ft:M.FT=FT
 xi:∀ars h,M.ext 288 ars h=none
 nF:∀x y c h,0<=x->0<=y->0<=c->c<=1->M.ext 310 [.uV x,.uV y,.uV c] h=some ⟨.aw [.uV ((x+y+c)%18446744073709551616),.uV ((x+y+c)/18446744073709551616)],h,[]⟩
 xj:∀(x y c:Int) h,0<=x->x<18446744073709551616->0<=y->y<18446744073709551616->0<=c->c<=1->M.ext 330 [.uV x,.uV y,.uV c] h=some ⟨.aw [.uV ((x-y-c)%18446744073709551616),.uV (if x<y+c then 1 else 0)],h,[]⟩
theorem nE.mH (C:nE M){b n:Nat}{L:List Int}{e:TypeId}{hp:ab}(hb:hp.at b=some (.cells (aq L) e))(hn:n<=L.length)(hl:n<1000000000)(hc:∀c,cap=some c->n<=c):CT M (.fn (.func 288) [] []) [.sl b 0 n 1 cap] hp ⟨bY b (bh (L.take n)) cap,hp,[]⟩:=
 CT.run (fi:=[]) (ca:=[]) (C.xi _ _) (VT C.ft hb hn hl hc)
def ra (M:ay)(g:Nat)(ars:List AV)(z:Int):Prop:=∃r:List Int,(okW wB r/\bg r/\WV wB r=z)/\∃v hh,lM v hh r/\bm M g ars [] ⟨v,hh,[]⟩
theorem DC {f N:Nat}{aY:List Nat}{res:List fO}{body:al}{ars:List AV}{z:Int}(hft:M.FT f=some ⟨N,aY,res,body⟩)(hN:ars.length<=N)
 (h:W M body ⟨⟨aY.map (fun t=>(ars[t]?).getD cM),[],[],[]⟩,[]⟩ fun e s=>(e = .normal\/e = .ret)/\s.s.cI=[]/\∃vs,dK s.s res=some vs/\∃r:List Int,(okW wB r/\bg r/\WV wB r=z)/\lM (bk vs) (if (bk vs).top<=0 then [] else s.s.hp) r):ra M f ars z:=by
 obtain⟨v,hh,⟨r,hr,ho⟩,h2⟩:=iR (P:=fun v hh=>∃r:List Int,(okW wB r/\bg r/\WV wB r=z)/\lM v hh r) hft hN h;exact⟨r,hr,v,hh,ho,h2⟩
theorem nG {L:List Int}(ok:okW wB L):okW wB (L.take (bh L))/\bg (L.take (bh L))/\WV wB (L.take (bh L))=WV wB L:=⟨eC ok _,Dz,xf⟩
def gG (y:List Int)(i:Nat):Int:=if i<y.length then y[i]! else 0
theorem tj {B:Int}{y:List Int}{i:Nat}:WV B (y.take (i+1))=WV B (y.take i)+B^i*gG y i:=by
 unfold gG;split
 . rename_i h;exact fT h
 . rename_i h;rw[bj ac,bj ac,c6,d8]
theorem JL {y:List Int}(ok:okW wB y)(i:Nat):0<=gG y i/\gG y i<wB:=by
 unfold gG;split
 . rename_i h;exact cL ok h
 . exact⟨ao,ao⟩
theorem JM (C:nE M)(x y:List Int)(hx:okW wB x)(hy:okW wB y)(lx:x.length<100000000)(ly:y.length<=x.length){Q:Ex->au->Prop}(a2 a5 a6:AV)(lo:List (Nat×AV))
 (hQ:∀L (c:Int) a5 a6 lo wr,L.length=x.length+1->okW wB L->(0<=c/\c<=1)->L[x.length]! = 0->WV wB L+wB^x.length*c=WV wB x+WV wB y ->
   Q (.exit 0) ⟨⟨[.vs (aq x) x.length c1,.vs (aq y) y.length c2,a2,.sl 0 0 (x.length+1) 1 (some (x.length+1)),.uV c,a5,a6,.iV x.length,.iV x.length],lo,[some (.cells (aq L) 274)],[]⟩,wr⟩) :
 W M (.loop wX) ⟨⟨[.vs (aq x) x.length c1,.vs (aq y) y.length c2,a2,.sl 0 0 (x.length+1) 1 (some (x.length+1)),.uV 0,a5,a6,.iV x.length,.iV 0],lo,[some (.cells (aq (c9 (x.length+1) 0)) 274)],[]⟩,[]⟩ Q:=by
 refine W.jf x.length (fun i s=>∃L c a5 a6 lo wr,s=⟨⟨[.vs (aq x) x.length c1,.vs (aq y) y.length c2,a2,.sl 0 0 (x.length+1) 1 (some (x.length+1)),.uV c,a5,a6,.iV x.length,.iV i],lo,[some (.cells (aq L) 274)],[]⟩,wr⟩ /\
  L.length=x.length+1/\okW wB L/\(0<=c/\c<=1)/\(∀k,i<=k->L[k]! = 0)/\WV wB L+wB^i*c=WV wB (x.take i)+WV wB (y.take i)) (fun i s hi ⟨L,c,a5,a6,lo,wr,hs,hl,cw,hc,hz,hv⟩=>?_) (fun s ⟨L,c,a5,a6,lo,wr,hs,hl,cw,hc,hz,hv⟩=>?_) (gc _)
  ⟨_,_,_,_,_,_,rfl,ax,lJ ao,⟨ao,ao⟩,fun k _=>lO,by rw[lK];simp[WV]⟩
 . subst hs;have gx:=cL hx hi;rw[show x[i]! = x[((i:Int)).toNat]! from rfl]at gx;have gy:=JL hy i;obtain⟨v,hvv⟩:∃v,v=gG y i:=⟨_,rfl⟩;rw[←hvv]at gy;have q310:=fun h=>C.nF x[((i:Int)).toNat]! v c h gx.1 gy.1 hc.1 hc.2
   obtain⟨S,hS⟩:∃S,S=x[((i:Int)).toNat]! + v+c:=⟨_,rfl⟩;have hS2:0<=S/\S<2*18446744073709551616:=by
    have h1:x[((i:Int)).toNat]! < 18446744073709551616:=gx.2;have h2:v<18446744073709551616:=gy.2;omega
   have eI:0+((i:Int)).toNat*1=i:=by omega
   have next:∀a5 a6 lo wr,LI (fun s=>∃L c a5 a6 lo wr,s=⟨⟨[.vs (aq x) x.length c1,.vs (aq y) y.length c2,a2,.sl 0 0 (x.length+1) 1 (some (x.length+1)),.uV c,a5,a6,.iV x.length,.iV ((i+1:Nat):Int)],lo,[some (.cells (aq L) 274)],[]⟩,wr⟩ /\
    L.length=x.length+1/\okW wB L/\(0<=c/\c<=1)/\(∀k,i+1<=k->L[k]! = 0)/\WV wB L+wB^(i+1)*c=WV wB (x.take (i+1))+WV wB (y.take (i+1))) Q .normal ⟨⟨[.vs (aq x) x.length c1,.vs (aq y) y.length c2,a2,.sl 0 0 (x.length+1) 1 (some (x.length+1)),.uV (S/18446744073709551616),a5,a6,.iV x.length,.iV ((i:Int)+1)],lo,[some (.cells (aq (L.set i (S%18446744073709551616))) 274)],[]⟩,wr⟩:=fun a5 a6 lo wr=>
    dQ ⟨_,_,a5,a6,lo,wr,rfl,by rw[be];exact hl,hJ cw ⟨ac,by show _<(18446744073709551616:Int);omega⟩,⟨ac,ac⟩,fun k hk=>by rw[iJ ac];exact hz k ac,by
     rw[hZ ac,hz i (bA _),fT hi,tj (y:=y),←hvv,cT];have e:S=x[i]! + v+c:=hS;have e2:S%18446744073709551616+18446744073709551616*(S/18446744073709551616)=S:=by omega
     have e3:wB^i*(S%18446744073709551616)+wB^i*18446744073709551616*(S/18446744073709551616)=wB^i*(x[i]! + v+c):=by rw[←e,←e2];grind
     show WV wB L+wB^i*(S%18446744073709551616-0)+wB^i*18446744073709551616*(S/18446744073709551616)=_;grind⟩
   unfold wX;by_cases hy2:i<y.length
   . have e:v=y[((i:Int)).toNat]! := by rw[hvv,gG,if_pos hy2];rfl
     rw[e]at q310 hS;repeat' first|(apply aiF;exact congrArg (fun z=>some (AV.ptr 0 z)) eI;rfl;rfl;omega)|apply abx|apply aa|apply abr|apply aaL|apply aef|apply adA|apply bC|(apply acO;rfl)|(apply aep;rfl;rfl)|(apply aeX;rfl;rfl;omega)|(apply adX;rfl;rfl;first|exact q310 _)|(apply ahT;rfl;rfl;omega)|(apply aic;rfl;rfl;omega)|(apply aib;rfl;exact fun _=>rfl;(first|omega|(simp only[be];omega)|(simp;omega));decide;rfl;case ia=>infer_instance)|(apply abA;rfl;rfl)|(apply abC;rfl;rfl)|(intro _;omega)|intro _
     all_goals try omega
     rw[←hS];exact next _ _ _ _
   . have e:v=0:=by rw[hvv,gG,if_neg hy2]
     rw[e]at q310 hS;repeat' first|(apply aiF;exact congrArg (fun z=>some (AV.ptr 0 z)) eI;rfl;rfl;omega)|apply abx|apply aa|apply abr|apply aaL|apply aef|apply adA|apply bC|(apply acO;rfl)|(apply acM;rfl)|(apply aep;rfl;rfl)|(apply aeX;rfl;rfl;omega)|(apply adX;rfl;rfl;first|exact q310 _)|(apply ahT;rfl;rfl;omega)|(apply aic;rfl;rfl;omega)|(apply aib;rfl;exact fun _=>rfl;(first|omega|(simp only[be];omega)|(simp;omega));decide;rfl;case ia=>infer_instance)|(apply abA;rfl;rfl)|(apply abC;rfl;rfl)|(intro _;omega)|intro _
     all_goals try omega
     rw[←hS];exact next _ _ _ _
 . subst hs;rw[d7,bj ly]at hv;unfold wX;repeat' first|apply abx|apply aa|apply abr|apply aaL|apply aeM|apply bH|apply ck|(apply acM;rfl)|(apply aep;rfl;rfl)|(intro _;omega)|intro _
   all_goals try omega
   exact hQ L c a5 a6 _ _ hl cw hc (hz _ (bA _)) hv
theorem VW (C:nE M)(x y:List Int)(hx:okW wB x)(hy:okW wB y)(lx:x.length<100000000)(ly:y.length<100000000):ra M 308 [.vs (aq x) x.length c1,.vs (aq y) y.length c2] (WV wB x+WV wB y):=by
 have fin:∀(x y:List Int) (L:List Int) (c:Int),okW wB x->x.length<100000000->L.length=x.length+1->okW wB L->(0<=c/\c<=1)->L[x.length]! = 0->WV wB L+wB^x.length*c=WV wB x+WV wB y ->
  okW wB (L.set x.length c)/\WV wB (L.set x.length c)=WV wB x+WV wB y:=fun x y L c _ _ hl cw hc hz hv=>
  ⟨hJ cw ⟨hc.1,by have:=hc.2;show c<(18446744073709551616:Int);omega⟩,by rw[hZ ac,hz,gD];exact hv⟩
 refine DC (by rw[C.ft];exact VG) ax ?_;unfold JB;simp only[enter];by_cases hl:x.length<y.length
 . repeat' first|apply abx|apply aa|apply abr|apply aaL|apply aef|(apply acO;rfl)|(apply aep;rfl;rfl)|(apply aeX;rfl;rfl;omega)|(apply aiI;rfl;rfl;omega)|(apply abA;rfl;rfl)|(apply abC;rfl;rfl)|(intro _;omega)|intro _
   all_goals try omega
   refine JM (c1:=c2) (c2:=c1) C y x hy hx ly ac _ _ _ _ (fun L c a5 a6 lo wr h1 h2 h3 h4 h5=>?_);obtain⟨f1,f2⟩:=fin y x L c hy ly h1 h2 h3 h4 h5;have q:=C.mH (cap:=some (y.length+1)) (b:=0) (n:=y.length+1) (L:=L.set y.length c) (e:=274) (hp:=[some (.cells (aq (L.set y.length c)) 274)]) rfl (by rw[be];omega) ac (fun c hc=>by cases hc;exact bA _);rw[bj (by rw[be];omega)]at q;have eI:0+((y.length:Int)).toNat*1=y.length:=by omega
   repeat' first|(apply aiF;exact congrArg (fun z=>some (AV.ptr 0 z)) eI;rfl;rfl;omega)|apply abx|apply aa|apply abr|apply aaL|apply acG|apply bJ|(apply ahW;rfl;rfl;first|exact q)|(apply aic;rfl;rfl;omega)|(apply abA;rfl;rfl)|(apply abC;rfl;rfl)
   refine⟨.inr rfl,rfl,_,rfl,(L.set y.length c).take (bh (L.set y.length c)),?_,?_⟩
   . obtain⟨g1,g2,g3⟩:=nG f1;exact⟨g1,g2,by rw[g3,f2];omega⟩
   . have:=lM.trim (cap:=some (y.length+1)) (b:=0) (L:=L.set y.length c) (e:=274) (hp:=[some (.cells (aq (L.set y.length c)) 274)]) (n:=y.length+1) rfl (by rw[be];omega);rw[bj (by rw[be];omega)]at this;exact this
 . repeat' first|apply abx|apply aa|apply abr|apply aaL|apply aef|apply adA|(apply acM;rfl)|(apply aep;rfl;rfl)|(apply aeX;rfl;rfl;omega)|(apply aiI;rfl;rfl;omega)|(apply abA;rfl;rfl)|(apply abC;rfl;rfl)|(intro _;omega)|intro _
   all_goals try omega
   refine JM (c1:=c1) (c2:=c2) C x y hx hy lx ac _ _ _ _ (fun L c a5 a6 lo wr h1 h2 h3 h4 h5=>?_);obtain⟨f1,f2⟩:=fin x y L c hx lx h1 h2 h3 h4 h5;have q:=C.mH (cap:=some (x.length+1)) (b:=0) (n:=x.length+1) (L:=L.set x.length c) (e:=274) (hp:=[some (.cells (aq (L.set x.length c)) 274)]) rfl (by rw[be];omega) ac (fun c hc=>by cases hc;exact bA _);rw[bj (by rw[be];omega)]at q;have eI:0+((x.length:Int)).toNat*1=x.length:=by omega
   repeat' first|(apply aiF;exact congrArg (fun z=>some (AV.ptr 0 z)) eI;rfl;rfl;omega)|apply abx|apply aa|apply abr|apply aaL|apply acG|apply bJ|(apply ahW;rfl;rfl;first|exact q)|(apply aic;rfl;rfl;omega)|(apply abA;rfl;rfl)|(apply abC;rfl;rfl)
   refine⟨.inr rfl,rfl,_,rfl,(L.set x.length c).take (bh (L.set x.length c)),?_,?_⟩
   . obtain⟨g1,g2,g3⟩:=nG f1;exact⟨g1,g2,by rw[g3,f2]⟩
   . have:=lM.trim (cap:=some (x.length+1)) (b:=0) (L:=L.set x.length c) (e:=274) (hp:=[some (.cells (aq (L.set x.length c)) 274)]) (n:=x.length+1) rfl (by rw[be];omega);rw[bj (by rw[be];omega)]at this;exact this
theorem VX (C:nE M)(x y:List Int)(hx:okW wB x)(hy:okW wB y)(lx:x.length<100000000)(ly:y.length<=x.length){Q:Ex->au->Prop}(a2 a5 a6:AV)(lo:List (Nat×AV))
 (hQ:∀L (c:Int) a5 a6 lo wr,L.length=x.length->okW wB L->(0<=c/\c<=1)->WV wB L-wB^x.length*c=WV wB x-WV wB y ->
   Q (.exit 0) ⟨⟨[.vs (aq x) x.length c1,.vs (aq y) y.length c2,a2,.sl 0 0 x.length 1 (some x.length),.uV c,a5,a6,.iV x.length,.iV x.length],lo,[some (.cells (aq L) 274)],[]⟩,wr⟩) :
 W M (.loop wY) ⟨⟨[.vs (aq x) x.length c1,.vs (aq y) y.length c2,a2,.sl 0 0 x.length 1 (some x.length),.uV 0,a5,a6,.iV x.length,.iV 0],lo,[some (.cells (aq (c9 x.length 0)) 274)],[]⟩,[]⟩ Q:=by
 refine W.jf x.length (fun i s=>∃L c a5 a6 lo wr,s=⟨⟨[.vs (aq x) x.length c1,.vs (aq y) y.length c2,a2,.sl 0 0 x.length 1 (some x.length),.uV c,a5,a6,.iV x.length,.iV i],lo,[some (.cells (aq L) 274)],[]⟩,wr⟩ /\
  L.length=x.length/\okW wB L/\(0<=c/\c<=1)/\(∀k,i<=k->L[k]! = 0)/\WV wB L-wB^i*c=WV wB (x.take i)-WV wB (y.take i)) (fun i s hi ⟨L,c,a5,a6,lo,wr,hs,hl,cw,hc,hz,hv⟩=>?_) (fun s ⟨L,c,a5,a6,lo,wr,hs,hl,cw,hc,hz,hv⟩=>?_) (gc _)
  ⟨_,_,_,_,_,_,rfl,ax,lJ ao,⟨ao,ao⟩,fun k _=>lO,by rw[lK];simp[WV]⟩
 . subst hs;have gx:=cL hx hi;rw[show x[i]! = x[((i:Int)).toNat]! from rfl]at gx;have gy:=JL hy i;obtain⟨v,hvv⟩:∃v,v=gG y i:=⟨_,rfl⟩;rw[←hvv]at gy;have q330:=fun h=>C.xj x[((i:Int)).toNat]! v c h gx.1 gx.2 gy.1 gy.2 hc.1 hc.2
   obtain⟨S,hS⟩:∃S,S=x[((i:Int)).toNat]! - v-c:=⟨_,rfl⟩;obtain⟨D,hD⟩:∃D:Int,D=if x[((i:Int)).toNat]! < v+c then 1 else 0:=⟨_,rfl⟩
   have hD2:0<=D/\D<=1/\S=S%18446744073709551616-18446744073709551616*D:=by
    have h1:x[((i:Int)).toNat]! < 18446744073709551616:=gx.2;have h2:v<18446744073709551616:=gy.2;rw[hD];split <;> omega
   have eI:0+((i:Int)).toNat*1=i:=by omega
   have next:∀a5 a6 lo wr,LI (fun s=>∃L c a5 a6 lo wr,s=⟨⟨[.vs (aq x) x.length c1,.vs (aq y) y.length c2,a2,.sl 0 0 x.length 1 (some x.length),.uV c,a5,a6,.iV x.length,.iV ((i+1:Nat):Int)],lo,[some (.cells (aq L) 274)],[]⟩,wr⟩ /\
    L.length=x.length/\okW wB L/\(0<=c/\c<=1)/\(∀k,i+1<=k->L[k]! = 0)/\WV wB L-wB^(i+1)*c=WV wB (x.take (i+1))-WV wB (y.take (i+1))) Q .normal ⟨⟨[.vs (aq x) x.length c1,.vs (aq y) y.length c2,a2,.sl 0 0 x.length 1 (some x.length),.uV D,a5,a6,.iV x.length,.iV ((i:Int)+1)],lo,[some (.cells (aq (L.set i (S%18446744073709551616))) 274)],[]⟩,wr⟩:=fun a5 a6 lo wr=>
    dQ ⟨_,_,a5,a6,lo,wr,rfl,by rw[be];exact hl,hJ cw ⟨ac,by show _<(18446744073709551616:Int);omega⟩,⟨hD2.1,hD2.2.1⟩,fun k hk=>by rw[iJ ac];exact hz k ac,by
     rw[hZ ac,hz i (bA _),fT hi,tj (y:=y),←hvv,cT];have e:S=x[i]! - v-c:=hS;have e3:wB^i*(S%18446744073709551616)-wB^i*18446744073709551616*D=wB^i*(x[i]! - v-c):=by rw[←e,cC,←ii,←hD2.2.2]
     show WV wB L+wB^i*(S%18446744073709551616-0)-wB^i*18446744073709551616*D=_;grind⟩
   unfold wY;by_cases hy2:i<y.length
   . have e:v=y[((i:Int)).toNat]! := by rw[hvv,gG,if_pos hy2];rfl
     rw[e]at q330 hS hD;rw[←hS,←hD]at q330;repeat' first|(apply aiF;exact congrArg (fun z=>some (AV.ptr 0 z)) eI;rfl;rfl;omega)|apply abx|apply aa|apply abr|apply aaL|apply aef|apply adA|apply bC|(apply acO;rfl)|(apply aep;rfl;rfl)|(apply aeX;rfl;rfl;omega)|(apply adX;rfl;rfl;first|exact q330 _)|(apply ahT;rfl;rfl;omega)|(apply aic;rfl;rfl;omega)|(apply aib;rfl;exact fun _=>rfl;(first|omega|(simp only[be];omega)|(simp;omega));decide;rfl;case ia=>infer_instance)|(apply abA;rfl;rfl)|(apply abC;rfl;rfl)|(intro _;omega)|intro _
     all_goals try omega
     exact next _ _ _ _
   . have e:v=0:=by rw[hvv,gG,if_neg hy2]
     rw[e]at q330 hS hD;rw[←hS,←hD]at q330;repeat' first|(apply aiF;exact congrArg (fun z=>some (AV.ptr 0 z)) eI;rfl;rfl;omega)|apply abx|apply aa|apply abr|apply aaL|apply aef|apply adA|apply bC|(apply acO;rfl)|(apply acM;rfl)|(apply aep;rfl;rfl)|(apply aeX;rfl;rfl;omega)|(apply adX;rfl;rfl;first|exact q330 _)|(apply ahT;rfl;rfl;omega)|(apply aic;rfl;rfl;omega)|(apply aib;rfl;exact fun _=>rfl;(first|omega|(simp only[be];omega)|(simp;omega));decide;rfl;case ia=>infer_instance)|(apply abA;rfl;rfl)|(apply abC;rfl;rfl)|(intro _;omega)|intro _
     all_goals try omega
     exact next _ _ _ _
 . subst hs;rw[d7,bj ly]at hv;unfold wY;repeat' first|apply abx|apply aa|apply abr|apply aaL|apply aeM|apply bH|apply ck|(apply acM;rfl)|(apply aep;rfl;rfl)|(intro _;omega)|intro _
   all_goals try omega
   exact hQ L c a5 a6 _ _ hl cw hc hv
theorem VY (C:nE M)(x y:List Int)(hx:okW wB x)(hy:okW wB y)(lx:x.length<100000000)(ly:y.length<=x.length)(hle:WV wB y<=WV wB x):ra M 309 [.vs (aq x) x.length c1,.vs (aq y) y.length c2] (WV wB x-WV wB y):=by
 refine DC (by rw[C.ft];exact VH) ax ?_;unfold JC;simp only[enter];repeat' first|apply abx|apply aa|apply abr|apply aaL|apply aef|(apply aiI;rfl;rfl;omega)|(apply abA;rfl;rfl)|(apply abC;rfl;rfl)
 all_goals try omega
 refine VX (c1:=c1) (c2:=c2) C x y hx hy lx ly _ _ _ _ (fun L c a5 a6 lo wr h1 h2 h3 h5=>?_);have h6:WV wB L=WV wB x-WV wB y:=by
  have h7:=dU (b:=wB) ao h2;rw[h1]at h7;have h8:c=0:=by
   rcases dg 0 c with h|h
   . have:c=1:=by omega
     subst this;rw[iH]at h5;omega
   . omega
  subst h8;rw[c6]at h5;omega
 have q:=C.mH (cap:=some x.length) (b:=0) (n:=x.length) (L:=L) (e:=274) (hp:=[some (.cells (aq L) 274)]) rfl ac ac (fun c hc=>by cases hc;exact bA _);rw[bj ac]at q;repeat' first|apply abx|apply aa|apply abr|apply aaL|apply acG|apply bJ|(apply ahW;rfl;rfl;first|exact q)|(apply abA;rfl;rfl)|(apply abC;rfl;rfl)
 refine⟨.inr rfl,rfl,_,rfl,L.take (bh L),?_,?_⟩
 . obtain⟨g1,g2,g3⟩:=nG h2;exact⟨g1,g2,by rw[g3,h6]⟩
 . have:=lM.trim (cap:=some x.length) (b:=0) (L:=L) (e:=274) (hp:=[some (.cells (aq L) 274)]) (n:=x.length) rfl ac;rw[bj ac]at this;exact this
structure nH (M:ay):Prop extends nE M where
 pw:∀(x y:Int) h,(0<=x/\x<18446744073709551616)->(0<=y/\y<18446744073709551616)->M.ext 259 [.uV x,.uV y] h=some ⟨.aw [.uV (x*y/18446744073709551616),.uV (x*y%18446744073709551616)],h,[]⟩
theorem xk {x y:Int}(hx:0<=x/\x<18446744073709551616)(hy:0<=y/\y<18446744073709551616):0<=x*y/\x*y<=340282366920938463426481119284349108225:=by
 refine⟨dc hx.1 hy.1,?_⟩;have:=iq (a:=x) (b:=y) (c:=18446744073709551615) (d:=18446744073709551615) ac ac hy.1 ac;omega
theorem VZ (C:nH M)(a b:List Int)(hb:okW wB b)(la:a.length<10000000)(lb:b.length<10000000)(i:Nat)(hi:i<a.length)(x P:Int)(hx:0<=x/\x<18446744073709551616){Q:Ex->au->Prop}(a2 a7 a8 a9 aA aB aC aD aE:AV)(lo:List (Nat×AV))(wr:List Nat)(L:List Int)(hl:L.length=a.length+b.length)(cw:okW wB L)(hz:∀k,i+b.length<=k->L[k]! = 0)(hv:WV wB L=P)
 (hQ:∀L (c:Int) a7 a8 a9 aA aB lo wr,L.length=a.length+b.length->okW wB L->(0<=c/\c<18446744073709551616)->(∀k,i+b.length<=k->L[k]! = 0)->WV wB L+wB^(i+b.length)*c=P+wB^i*x*WV wB b ->
   Q (.exit 2) ⟨⟨[.vs (aq a) a.length c1,.vs (aq b) b.length c2,a2,.sl 0 0 (a.length+b.length) 1 (some (a.length+b.length)),.iV i,.uV x,.uV c,a7,a8,a9,aA,aB,aC,aD,aE,.vs (aq b) b.length c2,.iV b.length,.iV b.length],lo,[some (.cells (aq L) 274)],[]⟩,wr⟩) :
 W M (.loop wT) ⟨⟨[.vs (aq a) a.length c1,.vs (aq b) b.length c2,a2,.sl 0 0 (a.length+b.length) 1 (some (a.length+b.length)),.iV i,.uV x,.uV 0,a7,a8,a9,aA,aB,aC,aD,aE,.vs (aq b) b.length c2,.iV b.length,.iV 0],lo,[some (.cells (aq L) 274)],[]⟩,wr⟩ Q:=by
 refine W.jf b.length (fun j s=>∃L c a7 a8 a9 aA aB lo wr,s=⟨⟨[.vs (aq a) a.length c1,.vs (aq b) b.length c2,a2,.sl 0 0 (a.length+b.length) 1 (some (a.length+b.length)),.iV i,.uV x,.uV c,a7,a8,a9,aA,aB,aC,aD,aE,.vs (aq b) b.length c2,.iV b.length,.iV j],lo,[some (.cells (aq L) 274)],[]⟩,wr⟩ /\
  L.length=a.length+b.length/\okW wB L/\(0<=c/\c<18446744073709551616)/\(∀k,i+b.length<=k->L[k]! = 0)/\WV wB L+wB^(i+j)*c=P+wB^i*x*WV wB (b.take j)) (fun j s hj ⟨L,c,a7,a8,a9,aA,aB,lo,wr,hs,hl,cw,hc,hz,hv⟩=>?_) (fun s ⟨L,c,a7,a8,a9,aA,aB,lo,wr,hs,hl,cw,hc,hz,hv⟩=>?_) (gc _)
  ⟨_,_,_,_,_,_,_,_,_,rfl,hl,cw,⟨ao,ao⟩,hz,by rw[hv];simp[WV]⟩
 . subst hs;have gy:=cL hb hj;rw[show b[j]! = b[((j:Int)).toNat]! from rfl]at gy;obtain⟨y,hy⟩:∃y,y=b[((j:Int)).toNat]! := ⟨_,rfl⟩;rw[←hy]at gy;have gy:0<=y/\y<18446744073709551616:=gy;have q259:=fun h=>C.pw x y h hx gy
   have hm:=xk hx gy;have hxy:∃m,m=x*y:=⟨_,rfl⟩;obtain⟨m,hmm⟩:=hxy;rw[←hmm]at q259 hm;have gL:=cL cw (i:=i+j) ac;obtain⟨w,hw⟩:∃w,w=L[i+j]! := ⟨_,rfl⟩;rw[←hw]at gL;have gL:0<=w/\w<18446744073709551616:=gL;have q1:=fun h=>C.nF (m%18446744073709551616) w 0 h ac gL.1 ao ao
   have q2:=fun h=>C.nF ((m%18446744073709551616+w+0)%18446744073709551616) c 0 h ac hc.1 ao ao
   obtain⟨R,hR⟩:∃R,R=((m%18446744073709551616+w+0)%18446744073709551616+c+0)%18446744073709551616:=⟨_,rfl⟩;obtain⟨D,hD⟩:∃D,D=m/18446744073709551616+(m%18446744073709551616+w+0)/18446744073709551616+((m%18446744073709551616+w+0)%18446744073709551616+c+0)/18446744073709551616:=⟨_,rfl⟩;have hD2:(0<=D/\D<18446744073709551616)/\m+w+c=R+18446744073709551616*D/\(0<=R/\R<18446744073709551616):=by omega
   have eI:0+(((i:Int)+(j:Int))).toNat*1=i+j:=by omega
   have next:∀a7 a8 a9 aA aB lo wr,LI (fun s=>∃L c a7 a8 a9 aA aB lo wr,s=⟨⟨[.vs (aq a) a.length c1,.vs (aq b) b.length c2,a2,.sl 0 0 (a.length+b.length) 1 (some (a.length+b.length)),.iV i,.uV x,.uV c,a7,a8,a9,aA,aB,aC,aD,aE,.vs (aq b) b.length c2,.iV b.length,.iV ((j+1:Nat):Int)],lo,[some (.cells (aq L) 274)],[]⟩,wr⟩ /\
    L.length=a.length+b.length/\okW wB L/\(0<=c/\c<18446744073709551616)/\(∀k,i+b.length<=k->L[k]! = 0)/\WV wB L+wB^(i+(j+1))*c=P+wB^i*x*WV wB (b.take (j+1))) Q .normal ⟨⟨[.vs (aq a) a.length c1,.vs (aq b) b.length c2,a2,.sl 0 0 (a.length+b.length) 1 (some (a.length+b.length)),.iV i,.uV x,.uV D,a7,a8,a9,aA,aB,aC,aD,aE,.vs (aq b) b.length c2,.iV b.length,.iV ((j:Int)+1)],lo,[some (.cells (aq (L.set (i+j) R)) 274)],[]⟩,wr⟩:=fun a7 a8 a9 aA aB lo wr=>
    dQ ⟨_,_,a7,a8,a9,aA,aB,lo,wr,rfl,by rw[be];exact hl,hJ cw hD2.2.2,hD2.1,fun k hk=>by rw[iJ ac];exact hz k hk,by
     rw[hZ ac,←hw,fT hj,show i+(j+1)=(i+j)+1 from rfl,cT,show b[j]! = y from hy.symm];have e:=hD2.2.1;rw[hmm]at e;have e2:wB^(i+j)*(R-w)+wB^(i+j)*18446744073709551616*D=wB^(i+j)*(x*y+c):=by
      have:x*y+c=R-w+18446744073709551616*D:=by omega
      rw[this,cZ,cC]
     have e3:wB^(i+j)=wB^i*wB^j:=eL _ _ _;show WV wB L+wB^(i+j)*(R-w)+wB^(i+j)*18446744073709551616*D=P+wB^i*x*(WV wB (b.take j)+wB^j*y);rw[j6,e2,cZ,←j6,Int.add_right_comm,hv];rw[e3];grind⟩
   rw[hD,hR,hw]at next
   rw[hw]at q1 q2;rw[hy]at q259;unfold wT;repeat' first|(apply aiM;exact congrArg (fun z=>some (AV.ptr 0 z)) eI;rfl;omega)|(apply aiF;exact congrArg (fun z=>some (AV.ptr 0 z)) eI;rfl;rfl;omega)|(apply aiC;rfl;rfl;exact⟨ac,ac⟩)|apply abx|apply aa|apply abr|apply aaL|apply aef|apply adA|apply bC|(apply acO;rfl)|(apply aep;rfl;rfl)|(apply aeX;rfl;rfl;omega)|(apply adX;rfl;rfl;first|exact q259 _|exact q1 _|exact q2 _)|(apply ahT;rfl;rfl;omega)|(apply aic;rfl;rfl;omega)|(apply aib;rfl;exact fun _=>rfl;(first|omega|(simp only[be];omega)|(simp;omega));decide;rfl;case ia=>infer_instance)|(apply abA;rfl;rfl)|(apply abC;rfl;rfl)|(intro _;omega)|intro _
   exact next _ _ _ _ _ _ _
 . subst hs;rw[d7]at hv;unfold wT;repeat' first|apply abx|apply aa|apply abr|apply aaL|apply aeM|apply bH|apply ck|(apply acM;rfl)|(apply aep;rfl;rfl)|(intro _;omega)|intro _
   all_goals try omega
   exact hQ L c a7 a8 a9 aA aB _ _ hl cw hc hz hv
theorem Wa (C:nH M)(a b:List Int)(ha:okW wB a)(hb:okW wB b)(la:a.length<10000000)(lb:b.length<10000000):ra M 262 [.vs (aq a) a.length c1,.vs (aq b) b.length c2] (WV wB a*WV wB b):=by
 refine DC (by rw[C.ft];exact VD) ax ?_;unfold Jx;simp only[enter];repeat' first|apply abx|apply aa|apply abr|apply aaL|apply aef|(apply aeX;rfl;rfl;omega)|(apply aiI;rfl;rfl;omega)|(apply abA;rfl;rfl)|(apply abC;rfl;rfl)
 have e0:((a.length:Int)+(b.length:Int)).toNat=a.length+b.length:=by omega
 rw[e0];refine W.jf a.length (fun i s=>∃L a4 a5 a6 a7 a8 a9 aA aB aF aG aH lo wr,s=⟨⟨[.vs (aq a) a.length c1,.vs (aq b) b.length c2,.ah,.sl 0 0 (a.length+b.length) 1 (some (a.length+b.length)),a4,a5,a6,a7,a8,a9,aA,aB,.vs (aq a) a.length c1,.iV a.length,.iV i,aF,aG,aH],lo,[some (.cells (aq L) 274)],[]⟩,wr⟩ /\
  L.length=a.length+b.length/\okW wB L/\(∀k,i+b.length<=k->L[k]! = 0)/\WV wB L=WV wB (a.take i)*WV wB b) (fun i s hi ⟨L,a4,a5,a6,a7,a8,a9,aA,aB,aF,aG,aH,lo,wr,hs,hl,cw,hz,hv⟩=>?_) (fun s ⟨L,a4,a5,a6,a7,a8,a9,aA,aB,aF,aG,aH,lo,wr,hs,hl,cw,hz,hv⟩=>?_) (gc _)
  ⟨c9 (a.length+b.length) 0,_,_,_,_,_,_,_,_,_,_,_,_,_,rfl,ax,lJ ao,fun k _=>lO,by rw[lK];simp[WV]⟩
 . subst hs;have gx:=cL ha hi;rw[show a[i]! = a[((i:Int)).toNat]! from rfl]at gx;have eI:0+(((i:Int)+(b.length:Int))).toNat*1=i+b.length:=by omega
   unfold Du;repeat' first|apply abx|apply aa|apply abr|apply aaL|apply aef|apply adA|(apply acO;rfl)|(apply aep;rfl;rfl)|(apply ahT;rfl;rfl;omega)|(apply aib;rfl;exact fun _=>rfl;(first|omega|(simp only[be];omega)|(simp;omega));decide;rfl;case ia=>infer_instance)|(apply abA;rfl;rfl)|(apply abC;rfl;rfl)|(intro _;omega)|intro _
   refine VZ (c1:=c1) (c2:=c2) C a b hb la lb i hi a[((i:Int)).toNat]! _ gx _ _ _ _ _ _ _ _ _ _ _ L hl cw hz hv (fun L2 c a7 a8 a9 aA aB lo wr h1 h2 h3 h4 h5=>?_);repeat' first|(apply aiF;exact congrArg (fun z=>some (AV.ptr 0 z)) eI;rfl;rfl;omega)|apply aa|apply abr|apply aaL|apply bC|apply bJ|(apply aeX;rfl;rfl;omega)|(apply aic;rfl;rfl;omega)|(apply abA;rfl;rfl)|(apply abC;rfl;rfl)
   refine dQ ⟨L2.set (i+b.length) c,_,_,_,_,_,_,_,_,_,_,_,_,_,rfl,by rw[be];exact h1,hJ h2 h3,fun k hk=>by rw[iJ ac];exact h4 k ac,?_⟩;rw[hZ ac,h4 _ (bA _),gD,h5,fT hi];show _=(WV wB (a.take i)+wB^i*a[i]!)*WV wB b;rw[dz];rfl
 . subst hs;rw[d7]at hv;have q:=C.mH (cap:=some (a.length+b.length)) (b:=0) (n:=a.length+b.length) (L:=L) (e:=274) (hp:=[some (.cells (aq L) 274)]) rfl ac ac (fun c hc=>by cases hc;exact bA _);rw[bj ac]at q;unfold Du;repeat' first|apply abx|apply aa|apply abr|apply aaL|apply acG|apply aeM|apply bH|apply bJ|apply ck|(apply acM;rfl)|(apply aep;rfl;rfl)|(apply ahW;rfl;rfl;first|exact q)|(apply abA;rfl;rfl)|(apply abC;rfl;rfl)|(intro _;omega)|intro _
   refine⟨.inr rfl,rfl,_,rfl,L.take (bh L),?_,?_⟩
   . obtain⟨g1,g2,g3⟩:=nG cw;exact⟨g1,g2,by rw[g3,hv]⟩
   . have:=lM.trim (cap:=some (a.length+b.length)) (b:=0) (L:=L) (e:=274) (hp:=[some (.cells (aq L) 274)]) (n:=a.length+b.length) rfl ac;rw[bj ac]at this;exact this
def JN:al:=zR [zm 5 0,zl 6 5,zw 2 6] (.region [zm 7 0,zm 8 2,zm 9 2,⟨.l 10,.gW .u64 (.l 9),none⟩,z1 11 188 10,zm 12 1,⟨.l 13,.call (kF 187) [(.l 7),(kI 0),(.l 8),(.l 11),(.l 12)],none⟩])
theorem Wb:FT 133=some ⟨14,[0,1,4],[],JN⟩:=by kernel_rfl
def JO:al:=.block 1 (zR [zm 21 2,zm 22 1,zb 23 .sub 21 22,zw 7 23] (.seq (zR [zm 24 7,zc 25 .leq 24 12] (.cond (.l 25) (zR [zm 26 0,zm 27 1,zm 28 2,zm 29 4,⟨.l 30,.call (kF 243) [(.l 26),(.l 27),(.l 28),(.l 29)],none⟩] (.ret)) (.skip))) (.seq (zR [zm 31 3,zc 32 .eql 31 0] (.cond (.l 32) (zR [zm 33 0,zm 34 1,zm 35 2,zm 36 4,⟨.l 37,.call (kF 244) [(.l 33),(.l 34),(.l 35),(.l 36)],none⟩] (.ret)) (.skip))) (.seq (zR [zm 38 5,zu 39 38] (.cond (.l 39) (zR [zm 40 0,zm 41 1,zm 42 2,zm 43 4,⟨.l 44,.call (kF 245) [(.l 40),(.l 41),(.l 42),(.l 43)],none⟩] (.region [zm 45 3,zc 46 .sub 45 1,zw 3 46])) (.skip))) (zR [zm 48 0,zm 49 1,zm 50 2,zm 51 4,⟨.l 52,.call (kF 246) [(.l 48),(.l 49),(.l 50),(.l 51)],none⟩,zn 47 52,ze 53 0 47,ze 54 1 47,zw 8 53,zw 9 54] (.seq (zR [zm 55 9,zc 56 .eql 55 2] (.cond (.l 56) (zR [zm 57 0,zm 58 1,zm 59 2,zm 60 4,⟨.l 61,.call (kF 247) [(.l 57),(.l 58),(.l 59),(.l 60)],none⟩] (zR [zm 62 2,zc 63 .sub 62 1,zm 64 8,zm 65 1,zb 66 .sub 64 65,zb 67 .sub 63 66,zw 8 67] (.region [zi 9 1]))) (.skip))) (.seq (zR [zm 68 5,zn 69 68,zg (zm 70 6) 69 true,zp 71 69 70,zn 72 71,zg (zm 73 9) 72 true,zg (zc 74 .eql 73 1) 72 true,zp 75 72 74] (.cond (.l 75) (zR [zm 76 0,zm 77 1,zm 78 2,zm 79 4,⟨.l 80,.call (kF 248) [(.l 76),(.l 77),(.l 78),(.l 79)],none⟩] (.cond (.l 80) (.ret) (.skip))) (.skip))) (.seq (.seq (.draw [(zm 81 1,[]),(zc 82 .gtr 81 0,[]),(zn 83 82,[]),(zg (zm 84 4) 83 true,[]),(zg (zm 85 0) 83 true,[3]),(zg (zm 86 1) 83 true,[3,4]),(zg (zc 87 .sub 86 1) 83 true,[3,4]),(zg (za 88 3 85 87) 83 true,[3]),(zg (zT 89 3 88) 83 true,[3]),(zg (zm 90 0) 83 true,[3,4,5,6,7,8]),(zg (zm 91 8) 83 true,[3,4,5,6,7,8,9]),(zg (za 92 3 90 91) 83 true,[3,4,5,6,7,8]),(zg (zT 93 3 92) 83 true,[3,4,5,6,7,8]),(⟨.l 94,.call (.l 84) [(.l 89),(.l 93)],some ((.l 83),true)⟩,[]),(zg (zc 95 .lss 94 0) 83 true,[]),(zg (zu 96 95) 83 true,[]),(zp 97 83 96,[])]) (.cond (.l 97) (zR [zm 98 0,zm 99 1,zm 100 2,zm 101 8,zm 102 4,⟨.l 103,.call (kF 249) [(.l 98),(.l 99),(.l 100),(.l 101),(.l 102)],none⟩,zw 10 103] (zR [zm 104 10,zw 1 104] (.exit 1))) (.skip))) (zR [zm 106 0,zm 107 1,zm 108 2,zm 109 8,zm 110 4,⟨.l 111,.call (kF 250) [(.l 106),(.l 107),(.l 108),(.l 109),(.l 110)],none⟩,zn 105 111,ze 112 0 105,ze 113 1 105,zw 11 112,zw 12 113] (zR [zm 114 12,zw 6 114] (zR [zm 115 11,zm 116 1,zb 117 .sub 115 116,zm 118 2,zm 119 11,zb 120 .sub 118 119,zw 13 117,zw 14 120] (zR [zm 121 7,zc 122 .quo 121 8,zw 15 122] (zR [zm 123 13,zm 124 14,zb 125 .lss 123 124] (.cond (.l 125) (zR [zm 126 13,zm 127 15,zb 128 .geq 126 127,zw 5 128] (zR [zm 129 0,zm 130 1,zm 131 11,zm 132 3,zm 133 4,⟨.l 134,.call (kF 187) [(.l 129),(.l 130),(.l 131),(.l 132),(.l 133)],none⟩] (.region [zm 135 11,zc 136 .add 135 1,zw 1 136]))) (zR [zm 137 14,zm 138 15,zb 139 .geq 137 138,zw 5 139] (zR [zm 140 0,zm 141 11,zc 142 .add 141 1,zm 143 2,zm 144 3,zm 145 4,⟨.l 146,.call (kF 187) [(.l 140),(.l 142),(.l 143),(.l 144),(.l 145)],none⟩] (.region [zm 147 11,zw 2 147])))))))))))))))))
def JP:al:=zR [⟨.p 5,.mv (.c (.bool true)),none⟩] (zR [⟨.p 6,.mv (.c (.bool true)),none⟩] (.block 0 (.loop JO)))
theorem Wc:FT 187=some ⟨148,[0,1,2,3,4,10,11,12,13,14,15,16,17,18,19,20],[],JP⟩:=by kernel_rfl
def JQ:al:=zR [zi 1 0] (.seq (.cond (.c (.bool false)) (zR [zm 3 0,⟨.l 4,.gW .u32 (.l 3),none⟩,z1 5 251 4,zw 1 5] (.ret)) (.skip)) (zR [zm 6 0,z1 7 252 6,zw 1 7] (.ret)))
theorem Wd:FT 188=some ⟨8,[0,2],[.var (.p 1)],JQ⟩:=by kernel_rfl
def DD:al:=zR [zi 1 0] (.seq (zR [zm 3 0,⟨.l 4,.bin .geq (.l 3) (kU 4294967296),none⟩] (.cond (.l 4) (zR [zm 5 0,⟨.l 6,.bin .shr (.l 5) (kU 32),none⟩,zw 0 6] (.region [zi 1 32])) (.skip))) (.seq (zR [zm 7 0,⟨.l 8,.bin .geq (.l 7) (kU 65536),none⟩] (.cond (.l 8) (zR [zm 9 0,⟨.l 10,.bin .shr (.l 9) (kU 16),none⟩,zw 0 10] (.region [zm 11 1,zc 12 .add 11 16,zw 1 12])) (.skip))) (.seq (zR [zm 13 0,⟨.l 14,.bin .geq (.l 13) (kU 256),none⟩] (.cond (.l 14) (zR [zm 15 0,⟨.l 16,.bin .shr (.l 15) (kU 8),none⟩,zw 0 16] (.region [zm 17 1,zc 18 .add 17 8,zw 1 18])) (.skip))) (zR [zm 19 1,zm 20 0,⟨.l 21,.gW .u8 (.l 20),none⟩,⟨.l 22,.index (.c (.str zD0)) (.l 21),none⟩,⟨.l 23,.gW .i64 (.l 22),none⟩,zb 24 .add 19 23,zw 1 24] (.ret)))))
theorem JR:FT 252=some ⟨25,[0,2],[.var (.p 1)],DD⟩:=by kernel_rfl
def rf:al:=.seq (.seq (.draw [(zm 18 5,[]),(zm 19 1,[0]),(zb 20 .gtr 18 19,[]),(zn 21 20,[]),(zg (zm 22 3) 21 true,[]),(zg (zm 23 0) 21 true,[4]),(zg (zm 24 5) 21 true,[4,5]),(zg (za 25 3 23 24) 21 true,[4]),(zg (zT 26 3 25) 21 true,[4]),(zg (zm 27 0) 21 true,[4,5,6,7,8]),(zg (zm 28 5) 21 true,[4,5,6,7,8,9]),(zg (zc 29 .sub 28 1) 21 true,[4,5,6,7,8,9]),(zg (za 30 3 27 29) 21 true,[4,5,6,7,8]),(zg (zT 31 3 30) 21 true,[4,5,6,7,8]),(⟨.l 32,.call (.l 22) [(.l 26),(.l 31)],some ((.l 21),true)⟩,[]),(zg (zc 33 .lss 32 0) 21 true,[]),(zp 34 21 33,[])]) (.cond (.l 34) (.skip) (.exit 2))) (.seq (.block 3 (.draw [(zm 37 0,[]),(zm 38 5,[0]),(zm 39 0,[0,1]),(zm 40 5,[0,1,2]),(zc 41 .sub 40 1,[0,1,2]),(zm 42 0,[0,1,2,3,4]),(zm 43 5,[0,1,2,3,4,5]),(zc 44 .sub 43 1,[0,1,2,3,4,5]),(za 45 3 42 44,[0,1,2,3,4]),(zT 46 3 45,[0,1,2,3,4]),(zm 47 0,[0,1,2,3,4,5,6,7,8,9]),(zm 48 5,[0,1,2,3,4,5,6,7,8,9,10]),(za 49 3 47 48,[0,1,2,3,4,5,6,7,8,9]),(zT 50 3 49,[0,1,2,3,4,5,6,7,8,9]),(za 51 3 37 38,[2,3,4]),(zS 3 51 46,[2,3,4]),(za 52 3 39 41,[]),(zS 3 52 50,[])])) (.region [zm 35 5,zc 36 .sub 35 1,zw 5 36]))
def xl:al:=.seq (zR [zm 12 4,zm 13 2,zb 14 .lss 12 13] (.cond (.l 14) (.skip) (.exit 0))) (.seq (.block 1 (zR [zm 17 4,zw 5 17] (.block 2 (.loop rf)))) (.region [zm 15 4,zc 16 .add 15 1,zw 4 16]))
def JS:al:=zR [zm 10 1,zc 11 .add 10 1,zw 4 11] (.block 0 (.loop xl))
theorem We:FT 243=some ⟨53,[0,1,2,3,8,9],[],JS⟩:=by kernel_rfl
def fj (x:Int):Nat:=if x=0 then 0 else x.toNat.log2+1
theorem Wf {x:Int}{n:Nat}(h:2^n<=x/\x<2^(n+1)):fj x=n+1:=by
 have h0:0<x:=by have:=cP (n:=2) (m:=n) ao;omega
 obtain⟨k,rfl⟩:=ip (b9 h0);have hk:k≠0:=by omega
 rw[fj,if_neg ac];have:(k:Int).toNat=k:=rfl;rw[this,(m8 hk).2 ⟨by exact_mod_cast h.1,by exact_mod_cast h.2⟩]
theorem xn {x:Int}(h:0<x):1<=fj x/\2^(fj x-1)<=x/\x<2^fj x:=by
 obtain⟨k,rfl⟩:=ip (b9 h);have hk:k≠0:=by omega
 rw[fj,if_neg ac];have h1:=(m8 hk).1 rfl;have:(k:Int).toNat=k:=rfl;rw[this];refine⟨ac,?_,?_⟩
 . rw[Nat.add_sub_cancel];exact_mod_cast h1.1
 . exact_mod_cast h1.2
theorem DE {x:Int}{n:Nat}(h:x<2^n)(h0:0<=x):fj x<=n:=by
 by_cases hx:x=0
 . simp[fj,hx]
 . obtain⟨h1,h2,h3⟩:=xn (show 0<x by omega);rcases k9 n (fj x) with h4|h4
   . have:(2:Int)^n<=2^(fj x-1):=iS ao ac;omega
   . exact h4
theorem Wg {x:Int}{s n:Nat}{u:Int}(hu:u=x/2^s)(_h0:0<=x)(h:2^n<=u/\u<2^(n+1)):fj x=s+n+1:=by
 have hp:=cP (n:=2) (m:=s) ao;subst hu;refine Wf ⟨?_,?_⟩
 . have h1:=br h.1 (b9 hp);have h2:=j4 (x:=x) (k:=2^s) ac;rw[eL];omega
 . have h1:2^s*(x/2^s+1)<=2^s*2^(n+1):=br ac (b9 hp);have h2:=fu (x:=x) (k:=2^s) hp;rw[cZ]at h1;rw[show s+n+1=s+(n+1) by omega,eL];omega
def mI:az:=[0,1,2,2,3,3,3,3,4,4,4,4,4,4,4,4,5,5,5,5,5,5,5,5,5,5,5,5,5,5,5,5]++c9 32 6++c9 64 7++c9 128 8
theorem Wh:∀k:Fin 256,0<k.val->1<=(mI[k.val]!).toNat/\2^((mI[k.val]!).toNat-1)<=k.val/\k.val<2^((mI[k.val]!).toNat-1+1):=by decide +kernel
theorem Wi {u:Int}(h0:0<u)(h:u<256):∃n:Nat,(mI[u.toNat]!).toNat=n+1/\(2:Int)^n<=u/\u<2^(n+1):=by
 obtain⟨k,rfl⟩:=ip (b9 h0);obtain⟨h1,h2,h3⟩:=Wh ⟨k,ac⟩ (by simpa using h0);refine⟨(mI[k]!).toNat-1,by simp only at h1;rw[show (k:Int).toNat=k from rfl];omega,?_,?_⟩
 . exact_mod_cast h2
 . exact_mod_cast h3
set_option maxRecDepth 100000 in
theorem Wj (hft:M.FT=FT)(x:Int)(hx:0<=x/\x<18446744073709551616):bm M 252 [.uV x] [] ⟨.iV (fj x),[],[]⟩:=by
 have key:∀(u:Int) (s:Nat),u=x/2^s->(0<u/\u<256)->((mI[u.toNat]!).toNat:Int)+s=fj x:=fun u s hu h=>by
  obtain⟨n,e,h2⟩:=Wi h.1 h.2;rw[Wg hu hx.1 h2,e];omega
 have tl:mI.length=256:=by decide +kernel
 have tb:∀k:Nat,(mI[k]!).toNat<256:=fun k=>UInt8.toNat_lt _
 refine bX (by rw[hft];exact JR) ax ?_;unfold DD;simp only[enter];repeat' first|(apply aiX (n:=32) (c:=4294967296);rfl;rfl;rfl;decide;rfl)|(apply aiX (n:=16) (c:=65536);rfl;rfl;rfl;decide;rfl)|(apply aiX (n:=8) (c:=256);rfl;rfl;rfl;decide;rfl)|(apply ajJ;rfl)|(apply aii (s:=mI);rfl;rfl;omega)|(apply aiL;rfl;(have:=tb;refine⟨ac,?_⟩;exact Int.lt_trans (Int.ofNat_lt.2 (tb _)) ao))|(apply aeX;rfl;rfl;exact⟨lc ao (Int.add_nonneg ao (Int.natCast_nonneg _)),Int.lt_of_le_of_lt (Int.add_le_add (Int.le_refl _) (Int.ofNat_le.2 (Nat.le_of_lt (tb _)))) ao⟩)|(apply aeX;rfl;rfl;omega)|apply abx|apply aa|apply abr|apply aaL|apply acG|apply adA|(apply acO;rfl)|(apply acM;rfl)|(apply ahS;rfl;rfl)|(apply abA;rfl;rfl)|(apply abC;rfl;rfl)|(intro _;omega)|intro _
 all_goals try omega
 all_goals refine⟨.inr rfl,rfl,_,rfl,congrArg (fun z=>AV.iV z) ?_,rfl⟩
 . have e:x/4294967296/65536/256%256=x/4294967296/65536/256:=by omega
   rw[e,←key (x/4294967296/65536/256) 56 (by rw[show (2:Int)^56=72057594037927936 from rfl];omega) ⟨ac,ac⟩];omega
 . have e:x/4294967296/65536%256=x/4294967296/65536:=by omega
   rw[e,←key (x/4294967296/65536) 48 (by rw[show (2:Int)^48=281474976710656 from rfl];omega) ⟨ac,ac⟩];omega
 . have e:x/4294967296/256%256=x/4294967296/256:=by omega
   rw[e,←key (x/4294967296/256) 40 (by rw[show (2:Int)^40=1099511627776 from rfl];omega) ⟨ac,ac⟩];omega
 . have e:x/4294967296%256=x/4294967296:=by omega
   rw[e,←key (x/4294967296) 32 (by rw[show (2:Int)^32=4294967296 from rfl]) ⟨ac,ac⟩];omega
 . have e:x/65536/256%256=x/65536/256:=by omega
   rw[e,←key (x/65536/256) 24 (by rw[show (2:Int)^24=16777216 from rfl];omega) ⟨ac,ac⟩];omega
 . have e:x/65536%256=x/65536:=by omega
   rw[e,←key (x/65536) 16 (by rw[show (2:Int)^16=65536 from rfl]) ⟨ac,ac⟩];omega
 . have e:x/256%256=x/256:=by omega
   rw[e,←key (x/256) 8 (by rw[show (2:Int)^8=256 from rfl]) ⟨ac,ac⟩];omega
 . by_cases h0:x=0
   . subst h0;decide +kernel
   . have e:x%256=x:=by omega
     rw[e,←key x 0 ax ⟨ac,ac⟩];omega
theorem Wk (hft:M.FT=FT)(x:Int)(hx:0<=x/\x<18446744073709551616)(Wl:∀h,M.ext 252 [.uV x] h=some ⟨.iV (fj x),h,[]⟩):bm M 289 [.uV x] [] ⟨.iV (64-fj x:Nat),[],[]⟩:=by
 have hb:fj x<=64:=DE (n:=64) hx.2 hx.1;refine bX (by rw[hft];exact VM) ax ?_;unfold JG;simp only[enter];repeat' first|apply abx|apply aa|apply abr|apply aaL|apply acG|(apply afS;rfl;rfl;omega)|(apply adX;rfl;rfl;first|exact Wl _)|(apply abA;rfl;rfl)|(apply abC;rfl;rfl)
 exact⟨.inr rfl,rfl,_,rfl,congrArg (fun z=>AV.iV z) ac,rfl⟩
structure gH (y1 y0 v w q r:Int):Prop where
 q0:0<=q
 r0:0<=r
 e:q*y1+r=v
 ge:(v*4294967296+w)/(y1*4294967296+y0)<=q
structure jQ (y1 y0 v w:Int):Prop where
 h1:2147483648<=y1/\y1<4294967296
 h0:0<=y0/\y0<4294967296
 hv:0<=v/\v<y1*4294967296+y0
 hw:0<=w/\w<4294967296
variable {y1 y0 v w q r:Int}
theorem jQ.lt (C:jQ y1 y0 v w):0<=(v*4294967296+w)/(y1*4294967296+y0)/\(v*4294967296+w)/(y1*4294967296+y0)<4294967296:=by
 have h1:=C.h1;have h0:=C.h0;have hv:=C.hv;have hw:=C.hw;exact⟨eA ac ac,c7 ac ac⟩
theorem gH.JT (C:jQ y1 y0 v w)(I:gH y1 y0 v w q r):q<=4294967297:=by
 have h1:=C.h1;have h0:=C.h0;have hv:=C.hv;rcases dg 4294967297 q with h|h
 . have h2:4294967298*y1<=q*y1:=bZ ac ac;have h3:=I.e;have h4:=I.r0;omega
 . exact h
theorem gH.full (_C:jQ y1 y0 v w)(I:gH y1 y0 v w q r):q*(y1*4294967296+y0)=(v-r)*4294967296+q*y0:=by
 have e:=I.e;have:v-r=q*y1:=by omega
 rw[this,cZ,cC]
theorem gH.exit (C:jQ y1 y0 v w)(I:gH y1 y0 v w q r)(h:q*y0<=4294967296*r+w):q=(v*4294967296+w)/(y1*4294967296+y0):=by
 have h1:=C.h1;have h0:=C.h0;have h2:q<=(v*4294967296+w)/(y1*4294967296+y0):=j1 ac (by rw[I.full C];omega);have:=I.ge;omega
theorem gH.dec (C:jQ y1 y0 v w)(I:gH y1 y0 v w q r)(h:4294967296<=q\/4294967296*r+w<q*y0):gH y1 y0 v w (q-1) (r+y1):=by
 have h1:=C.h1;have h0:=C.h0;have hl:=C.lt;have hg:(v*4294967296+w)/(y1*4294967296+y0)<=q-1:=by
  rcases h with h|h
  . omega
  . have:(v*4294967296+w)/(y1*4294967296+y0)<q:=c7 ac (by rw[I.full C];omega);omega
 exact⟨ac,by have:=I.r0;omega,by have:=I.e;rw[iI];omega,hg⟩
theorem gH.nI (C:jQ y1 y0 v w)(I:gH y1 y0 v w q r)(h:4294967296<=r):q=(v*4294967296+w)/(y1*4294967296+y0):=by
 have h1:=C.h1;have h0:=C.h0;have hv:=C.hv;have hw:=C.hw;have hq:q<4294967296:=by
  rcases dg q 4294967296 with h'|h'
  . exact h'
  . have h2:4294967296*y1<=q*y1:=bZ h' ac;have:=I.e;omega
 refine I.exit C ?_;have h3:=iq (a:=q) (b:=y0) (c:=4294967295) (d:=4294967295) ac ac h0.1 ac;omega
theorem gH.init (C:jQ y1 y0 v w):gH y1 y0 v w (v/y1) (v-v/y1*y1):=by
 have h1:=C.h1;have h0:=C.h0;have hv:=C.hv;have hw:=C.hw;have e1:=j4 (x:=v) (k:=y1) ac;have e2:=fu (x:=v) (k:=y1) ac;have e3:y1*(v/y1)=v/y1*y1:=cD _ _;refine⟨eA hv.1 ac,ac,ac,?_⟩;have h5:(v*4294967296+w)/(y1*4294967296+y0)<=(v*4294967296+w)/(y1*4294967296):=by
  refine j1 ac ?_;have hl:=C.lt;have h6:=j0 (v*4294967296+w) (show y1*4294967296+y0≠0 by omega);rw[cZ]at h6;have:=dc hl.1 h0.1;omega
 have h6:(v*4294967296+w)/(y1*4294967296)=v/y1:=by
  rw[cD y1,←Int.ediv_ediv_of_nonneg ao];congr 1;omega
 omega
theorem gH.xp (C:jQ y1 y0 v w)(h:q<4294967296)(h':0<=q):0<=q*y0/\q*y0<18446744073709551616:=by
 have h0:=C.h0;refine⟨dc h' h0.1,?_⟩;have h3:=iq (a:=q) (b:=y0) (c:=4294967295) (d:=4294967295) ac ac h0.1 ac;omega
theorem Wm (C:jQ y1 y0 v w){Q:Ex->au->Prop}(a0 a1 a2 a3 a4 a5 a8 a9 aB aE aF:AV)
 (hQ:∀r lo,Q (.exit 0) ⟨⟨[a0,a1,a2,a3,a4,a5,.uV y1,.uV y0,a8,a9,.uV w,aB,.uV ((v*4294967296+w)/(y1*4294967296+y0)),.uV r,aE,aF],lo,[],[]⟩,[]⟩) :
 ∀(n:Nat) (q r:Int) lo,q.toNat=n->gH y1 y0 v w q r->r<4294967296->W M (.loop xc) ⟨⟨[a0,a1,a2,a3,a4,a5,.uV y1,.uV y0,a8,a9,.uV w,aB,.uV q,.uV r,aE,aF],lo,[],[]⟩,[]⟩ Q:=by
 have h1:=C.h1;have h0:=C.h0;have hv:=C.hv;have hw:=C.hw;intro n;induction n with
 | zero=>
  intro q r lo hn I hr;have hq0:=I.q0;obtain rfl:q=0:=by omega
  have hr0:=I.r0;have eq:=I.exit C ac;refine W.loop ?_;unfold xc;repeat' first|(apply aiA;rfl;rfl;omega)|(apply aiC;rfl;rfl;omega)|apply abx|apply aa|apply abr|apply aaL|apply aeM|apply bH|apply cA|(apply acM;rfl)|(apply ahQ;rfl)|(apply aeq;rfl;rfl)|(apply ahS;rfl;rfl)|(apply aeC;rfl;rfl)|(apply abA;rfl;rfl)|(intro _;omega)|intro _
  all_goals try omega
  have:=hQ r;rw[←eq]at this;exact this _
 | succ n ih=>
  intro q r lo hn I hr;have hq0:=I.q0;have hr0:=I.r0;have hql:=I.JT C;refine W.loop ?_;unfold xc;by_cases hd:4294967296<=q\/4294967296*r+w<q*y0
  . have I2:=I.dec C hd;by_cases hb:4294967296<=q
    . by_cases hr2:4294967296<=r+y1
      . have e:=I2.nI C hr2;repeat' first|(apply aiG;rfl;rfl;omega)|(apply aiC;rfl;rfl;omega)|apply abx|apply aa|apply abr|apply aaL|apply aef|apply aeM|apply adA|(apply dT;rfl)|apply cA|(apply acO;rfl)|(apply aid;rfl)|(apply ahS;rfl;rfl)|(apply aeB;rfl;rfl)|(apply abA;rfl;rfl)|(apply abC;rfl;rfl)|(intro _;omega)|intro _
        all_goals try omega
        have:=hQ (r+y1);rw[←e]at this;exact this _
      . repeat' first|(apply aiG;rfl;rfl;omega)|(apply aiC;rfl;rfl;omega)|apply abx|apply aa|apply abr|apply aaL|apply aef|apply adA|apply bC|(apply acO;rfl)|(apply acM;rfl)|(apply aid;rfl)|(apply ahS;rfl;rfl)|(apply aeB;rfl;rfl)|(apply abA;rfl;rfl)|(apply abC;rfl;rfl)|(intro _;omega)|intro _
        all_goals try omega
        exact fX (ih _ _ _ ac I2 ac)
    . have hm:=gH.xp (q:=q) C ac hq0;obtain⟨P,hP⟩:∃P,P=q*y0:=⟨_,rfl⟩;rw[←hP]at hd hm;by_cases hr2:4294967296<=r+y1
      . have e:=I2.nI C hr2;repeat' first|(apply aiG;rfl;rfl;omega)|(apply aiC;rfl;rfl;omega)|(apply aiA (a:=4294967296);rfl;rfl;omega)|(apply aiA (a:=q) (b:=y0);rfl;rfl;rw[←hP];exact hm)|apply abx|apply aa|apply abr|apply aaL|apply aef|apply aeM|apply adA|(apply dT;rfl)|apply cA|(apply acO;rfl)|(apply ahQ;rfl)|(apply aeq;rfl;rfl)|(apply ahS;rfl;rfl)|(apply aeC;rfl;rfl)|(apply abA;rfl;rfl)|(apply abC;rfl;rfl)|(intro _;omega)|intro _
        all_goals try omega
        have:=hQ (r+y1);rw[←e]at this;exact this _
      . repeat' first|(apply aiG;rfl;rfl;omega)|(apply aiC;rfl;rfl;omega)|(apply aiA (a:=4294967296);rfl;rfl;omega)|(apply aiA (a:=q) (b:=y0);rfl;rfl;rw[←hP];exact hm)|apply abx|apply aa|apply abr|apply aaL|apply aef|apply adA|apply bC|(apply acO;rfl)|(apply acM;rfl)|(apply ahQ;rfl)|(apply aeq;rfl;rfl)|(apply ahS;rfl;rfl)|(apply aeC;rfl;rfl)|(apply abA;rfl;rfl)|(apply abC;rfl;rfl)|(intro _;omega)|intro _
        all_goals try omega
        exact fX (ih _ _ _ ac I2 ac)
  . have hm:=gH.xp (q:=q) C ac hq0;have e:=I.exit C ac;obtain⟨P,hP⟩:∃P,P=q*y0:=⟨_,rfl⟩;rw[←hP]at hd hm;repeat' first|(apply aiC;rfl;rfl;omega)|(apply aiA (a:=4294967296);rfl;rfl;omega)|(apply aiA (a:=q) (b:=y0);rfl;rfl;rw[←hP];exact hm)|apply abx|apply aa|apply abr|apply aaL|apply aeM|apply bH|apply cA|(apply acM;rfl)|(apply ahQ;rfl)|(apply aeq;rfl;rfl)|(apply ahS;rfl;rfl)|(apply aeC;rfl;rfl)|(apply abA;rfl;rfl)|(intro _;omega)|intro _
    all_goals try omega
    have:=hQ r;rw[←e]at this;exact this _
theorem Wn (C:jQ y1 y0 v w){Q:Ex->au->Prop}(a0 a1 a2 a3 a4 a5 a8 a9 aA aC aE:AV)
 (hQ:∀r lo,Q (.exit 2) ⟨⟨[a0,a1,a2,a3,a4,a5,.uV y1,.uV y0,a8,a9,aA,.uV w,aC,.uV r,aE,.uV ((v*4294967296+w)/(y1*4294967296+y0))],lo,[],[]⟩,[]⟩) :
 ∀(n:Nat) (q r:Int) lo,q.toNat=n->gH y1 y0 v w q r->r<4294967296->W M (.loop xe) ⟨⟨[a0,a1,a2,a3,a4,a5,.uV y1,.uV y0,a8,a9,aA,.uV w,aC,.uV r,aE,.uV q],lo,[],[]⟩,[]⟩ Q:=by
 have h1:=C.h1;have h0:=C.h0;have hv:=C.hv;have hw:=C.hw;intro n;induction n with
 | zero=>
  intro q r lo hn I hr;have hq0:=I.q0;obtain rfl:q=0:=by omega
  have hr0:=I.r0;have eq:=I.exit C ac;refine W.loop ?_;unfold xe;repeat' first|(apply aiA;rfl;rfl;omega)|(apply aiC;rfl;rfl;omega)|apply abx|apply aa|apply abr|apply aaL|apply aeM|apply bH|apply cA|(apply acM;rfl)|(apply ahQ;rfl)|(apply aeq;rfl;rfl)|(apply ahS;rfl;rfl)|(apply aeC;rfl;rfl)|(apply abA;rfl;rfl)|(intro _;omega)|intro _
  all_goals try omega
  have:=hQ r;rw[←eq]at this;exact this _
 | succ n ih=>
  intro q r lo hn I hr;have hq0:=I.q0;have hr0:=I.r0;have hql:=I.JT C;refine W.loop ?_;unfold xe;by_cases hd:4294967296<=q\/4294967296*r+w<q*y0
  . have I2:=I.dec C hd;by_cases hb:4294967296<=q
    . by_cases hr2:4294967296<=r+y1
      . have e:=I2.nI C hr2;repeat' first|(apply aiG;rfl;rfl;omega)|(apply aiC;rfl;rfl;omega)|apply abx|apply aa|apply abr|apply aaL|apply aef|apply aeM|apply adA|(apply dT;rfl)|apply cA|(apply acO;rfl)|(apply aid;rfl)|(apply ahS;rfl;rfl)|(apply aeB;rfl;rfl)|(apply abA;rfl;rfl)|(apply abC;rfl;rfl)|(intro _;omega)|intro _
        all_goals try omega
        have:=hQ (r+y1);rw[←e]at this;exact this _
      . repeat' first|(apply aiG;rfl;rfl;omega)|(apply aiC;rfl;rfl;omega)|apply abx|apply aa|apply abr|apply aaL|apply aef|apply adA|apply bC|(apply acO;rfl)|(apply acM;rfl)|(apply aid;rfl)|(apply ahS;rfl;rfl)|(apply aeB;rfl;rfl)|(apply abA;rfl;rfl)|(apply abC;rfl;rfl)|(intro _;omega)|intro _
        all_goals try omega
        exact fX (ih _ _ _ ac I2 ac)
    . have hm:=gH.xp (q:=q) C ac hq0;obtain⟨P,hP⟩:∃P,P=q*y0:=⟨_,rfl⟩;rw[←hP]at hd hm;by_cases hr2:4294967296<=r+y1
      . have e:=I2.nI C hr2;repeat' first|(apply aiG;rfl;rfl;omega)|(apply aiC;rfl;rfl;omega)|(apply aiA (a:=4294967296);rfl;rfl;omega)|(apply aiA (a:=q) (b:=y0);rfl;rfl;rw[←hP];exact hm)|apply abx|apply aa|apply abr|apply aaL|apply aef|apply aeM|apply adA|(apply dT;rfl)|apply cA|(apply acO;rfl)|(apply ahQ;rfl)|(apply aeq;rfl;rfl)|(apply ahS;rfl;rfl)|(apply aeC;rfl;rfl)|(apply abA;rfl;rfl)|(apply abC;rfl;rfl)|(intro _;omega)|intro _
        all_goals try omega
        have:=hQ (r+y1);rw[←e]at this;exact this _
      . repeat' first|(apply aiG;rfl;rfl;omega)|(apply aiC;rfl;rfl;omega)|(apply aiA (a:=4294967296);rfl;rfl;omega)|(apply aiA (a:=q) (b:=y0);rfl;rfl;rw[←hP];exact hm)|apply abx|apply aa|apply abr|apply aaL|apply aef|apply adA|apply bC|(apply acO;rfl)|(apply acM;rfl)|(apply ahQ;rfl)|(apply aeq;rfl;rfl)|(apply ahS;rfl;rfl)|(apply aeC;rfl;rfl)|(apply abA;rfl;rfl)|(apply abC;rfl;rfl)|(intro _;omega)|intro _
        all_goals try omega
        exact fX (ih _ _ _ ac I2 ac)
  . have hm:=gH.xp (q:=q) C ac hq0;have e:=I.exit C ac;obtain⟨P,hP⟩:∃P,P=q*y0:=⟨_,rfl⟩;rw[←hP]at hd hm;repeat' first|(apply aiC;rfl;rfl;omega)|(apply aiA (a:=4294967296);rfl;rfl;omega)|(apply aiA (a:=q) (b:=y0);rfl;rfl;rw[←hP];exact hm)|apply abx|apply aa|apply abr|apply aaL|apply aeM|apply bH|apply cA|(apply acM;rfl)|(apply ahQ;rfl)|(apply aeq;rfl;rfl)|(apply ahS;rfl;rfl)|(apply aeC;rfl;rfl)|(apply abA;rfl;rfl)|(intro _;omega)|intro _
    all_goals try omega
    have:=hQ r;rw[←e]at this;exact this _
theorem Wo {hi lo y:Int}{s:Nat}(hy:0<y)(_hh:0<=hi/\hi<y)(_hl:0<=lo/\lo<18446744073709551616){q R:Int}(h:(hi*18446744073709551616+lo)*2^s=q*(y*2^s)+R)(hR:0<=R/\R<y*2^s) :
 q=(hi*18446744073709551616+lo)/y/\R/2^s=(hi*18446744073709551616+lo)%y:=by
 have hp:=cP (n:=2) (m:=s) ao;generalize (2:Int)^s=p at *
 generalize hi*18446744073709551616+lo=N at *
 have e1:R=(N-q*y)*p:=by rw[iI,h,←cC];omega
 have r0:0<=N-q*y:=by
  rcases dg (N-q*y) 0 with h'|h'
  . have:=c5 h' hp;omega
  . exact h'
 have r1:N-q*y<y:=by
  refine i9 (a:=p) ?_ (b9 hp);omega
 have e2:N/y=q:=by
  rw[show N=(N-q*y)+y*q by rw[cD y q];omega,j2 _ _ ac,fY r0 r1];omega
 refine⟨e2.symm,?_⟩;rw[e1,Int.mul_ediv_cancel _ ac,Int.emod_def,e2,cD y q]
theorem xq {s:Nat}(h:s<=64):(2:Int)^s*2^(64-s)=18446744073709551616:=by
 rw[←eL,show s+(64-s)=64 by omega];rfl
theorem Wp (hft:M.FT=FT)(hi lo y:Int)(hy:0<y/\y<18446744073709551616)(hh:0<=hi/\hi<y)(hl:0<=lo/\lo<18446744073709551616)(tk:∀h,M.ext 289 [.uV y] h=some ⟨.iV (64-fj y:Nat),h,[]⟩) :
 bm M 287 [.uV hi,.uV lo,.uV y] [] ⟨.aw [.uV ((hi*18446744073709551616+lo)/y),.uV ((hi*18446744073709551616+lo)%y)],[],[]⟩:=by
 refine bX (by rw[hft];exact VK) ax ?_;unfold JF;simp only[enter];by_cases h0:hi=0
 . subst h0;repeat' first|(apply aji;rfl;rfl;exact hl;exact hy.1)|(apply ajI;rfl;rfl;exact hl.1;exact hy.1)|apply abx|apply aa|apply abr|apply aaL|apply acG|apply adA|apply ba|(apply ahZ;rfl)|(apply acO;rfl)|(apply acM;rfl)|(apply aiw;rfl;rfl)|(apply afe;rfl;rfl)|(apply abA;rfl;rfl)|(apply abC;rfl;rfl)|(intro _;omega)|intro _
   all_goals try omega
   exact⟨.inr rfl,rfl,_,rfl,by rw[Int.zero_mul,le];rfl,rfl⟩
 . obtain⟨b1,b2,b3⟩:=xn hy.1;have b4:fj y<=64:=DE (n:=64) hy.2 ac;obtain⟨s,hs⟩:∃s:Nat,s=64-fj y:=⟨_,rfl⟩;rw[←hs]at tk;have hs64:s<=63:=by omega
   have hp:=cP (n:=2) (m:=s) ao;have hps:=xq (s:=s) ac;have hY1:9223372036854775808<=y*2^s:=by
    have h1:(2:Int)^(fj y-1)*2^s<=y*2^s:=bZ b2 (b9 hp);rw[←eL,show fj y-1+s=63 by omega]at h1;exact lc ao h1
   have hY2:y*2^s<18446744073709551616:=by
    have h1:y*2^s<2^fj y*2^s:=c5 b3 hp;rw[←eL,show fj y+s=64 by omega]at h1;exact Int.lt_of_lt_of_le h1 ao
   have hhs:0<=hi*2^s/\hi*2^s<y*2^s:=⟨dc hh.1 (b9 hp),c5 hh.2 hp⟩;have hp2:=cP (n:=2) (m:=64-s) ao;have hlo:0<=lo/2^(64-s)/\lo/2^(64-s)<2^s:=⟨eA hl.1 (b9 hp2),c7 hp2 (by rw[hps];exact hl.2)⟩;have hdv:hi*2^s%2^s=0:=jj _ _;have hlos:lo*2^s/18446744073709551616=lo/2^(64-s):=by
    rw[←hps,cD lo];exact jN _ _ hp
   have hN:(hi*18446744073709551616+lo)*2^s=(hi*2^s+lo/2^(64-s))*18446744073709551616+lo*2^s%18446744073709551616:=by
    rw[←hlos,dz,je];omega
   have hv:hi*2^s+lo/2^(64-s)<y*2^s:=by
    have h1:(hi*18446744073709551616+lo)*2^s<(y*18446744073709551616)*2^s:=c5 ac hp;rw[hN,je]at h1;omega
   repeat' first|(apply ajc;rfl;omega)|(apply ajv (L:=s) (a:=y);rfl;rfl;omega;exact⟨ac,hY2⟩)|(apply ajv (L:=s) (a:=hi);rfl;rfl;omega;exact⟨hhs.1,ac⟩)|(apply aiX (n:=32) (c:=4294967296);rfl;rfl;rfl;decide;rfl)|(apply ajx;rfl;rfl;omega)|(apply aiG (a:=64);rfl;rfl;omega)|(apply aiT (n:=64-s) (a:=lo);rfl;rfl;omega;omega)|(apply ajy s;rfl;rfl;omega;exact hlo;omega;exact hdv)|(apply aje (n:=s) (a:=lo);rfl;rfl;rfl;omega)|apply abx|apply aa|apply abr|apply aaL|apply adA|(apply acM;rfl)|(apply aiw;rfl;rfl)|(apply afe;rfl;rfl)|(apply adX;rfl;rfl;first|exact tk _)|(apply abA;rfl;rfl)|(apply abC;rfl;rfl)|(intro _;omega)|intro _
   all_goals try omega
   have fin:=fun q R h=>Wo (hi:=hi) (lo:=lo) (y:=y) (s:=s) hy.1 hh hl (q:=q) (R:=R) h
   rw[hN]at fin;have hv0:0<=hi*2^s+lo/2^(64-s):=by omega
   have hu:0<=lo*2^s%18446744073709551616/\lo*2^s%18446744073709551616<18446744073709551616:=by omega
   generalize hi*2^s+lo/2^(64-s)=v at *
   generalize lo*2^s%18446744073709551616=u at *
   generalize y*2^s=Y at *
   have C1:jQ (Y/4294967296) (Y%4294967296) v (u/4294967296):=⟨ac,ac,ac,ac⟩;have I1:=gH.init C1;have m1:0<=v/(Y/4294967296)*(Y/4294967296)/\v/(Y/4294967296)*(Y/4294967296)<=v:=⟨dc I1.q0 ac,by have:=I1.r0;omega⟩;have r1:v-v/(Y/4294967296)*(Y/4294967296)<4294967296:=by
    have:=fu (x:=v) (k:=Y/4294967296) ac;rw[cD (Y/4294967296)]at this;omega
   repeat' first|(apply aji;rfl;rfl;omega;omega)|(apply aiA (a:=v/(Y/4294967296)) (b:=Y/4294967296);rfl;rfl;omega)|(apply aiG;rfl;rfl;omega)|apply abx|apply aa|apply abr|apply aaL|apply aef|(apply abA;rfl;rfl)|(apply abC;rfl;rfl)
   refine Wm C1 _ _ _ _ _ _ _ _ _ _ _ (fun r lo2=>?_) _ _ _ _ rfl I1 r1;have eY:Y/4294967296*4294967296+Y%4294967296=Y:=by omega
   have hQ:=C1.lt;rw[eY]at hQ ⊢;have hd1:=j0 (v*4294967296+u/4294967296) (show Y≠0 by omega);have hd2:=i6 (v*4294967296+u/4294967296) (show 0<Y by omega);generalize (v*4294967296+u/4294967296)/Y=Q1 at *
   have hR1:∃R,R=v*4294967296+u/4294967296-Q1*Y:=⟨_,rfl⟩;obtain⟨R1,hR1⟩:=hR1;rw[dz,fo]at hd2;have eR:((v*4294967296%18446744073709551616+u/4294967296)%18446744073709551616-Q1*Y%18446744073709551616)%18446744073709551616=R1:=by omega
   have C2:jQ (Y/4294967296) (Y%4294967296) R1 (u%4294967296):=⟨ac,ac,ac,ac⟩;have I2:=gH.init C2;have m2:0<=R1/(Y/4294967296)*(Y/4294967296)/\R1/(Y/4294967296)*(Y/4294967296)<=R1:=⟨dc I2.q0 ac,by have:=I2.r0;omega⟩;have r2:R1-R1/(Y/4294967296)*(Y/4294967296)<4294967296:=by
    have:=fu (x:=R1) (k:=Y/4294967296) ac;rw[cD (Y/4294967296)]at this;omega
   repeat' first|(apply ajh;rfl;rfl)|(apply ajg;rfl;rfl)|(apply ajw;rfl;rfl)|apply abx|apply aa|apply abr|apply aaL|apply bJ|(apply abA;rfl;rfl)|(apply abC;rfl;rfl)
   rw[eR];repeat' first|(apply aji;rfl;rfl;omega;omega)|(apply aiA (a:=R1/(Y/4294967296)) (b:=Y/4294967296);rfl;rfl;omega)|(apply aiG;rfl;rfl;omega)|apply abx|apply aa|apply abr|apply aaL|apply aef|(apply abA;rfl;rfl)|(apply abC;rfl;rfl)
   refine Wn C2 _ _ _ _ _ _ _ _ _ _ _ (fun r lo2=>?_) _ _ _ _ rfl I2 r2;have hQ2:=C2.lt;rw[eY]at hQ2 ⊢;have hd3:=j0 (R1*4294967296+u%4294967296) (show Y≠0 by omega);have hd4:=i6 (R1*4294967296+u%4294967296) (show 0<Y by omega);generalize (R1*4294967296+u%4294967296)/Y=Q2 at *
   rw[dz,fo]at hd4;obtain⟨R2,hR2⟩:∃R,R=R1*4294967296+u%4294967296-Q2*Y:=⟨_,rfl⟩;have eR2:((R1*4294967296%18446744073709551616+u%4294967296)%18446744073709551616-Q2*Y%18446744073709551616)%18446744073709551616=R2:=by omega
   obtain⟨f1,f2⟩:=fin (Q1*4294967296+Q2) R2 (by rw[dz,je Q1];omega) ac;repeat' first|(apply aiA (a:=Q1) (b:=4294967296);rfl;rfl;omega)|(apply aiC (a:=Q1*4294967296) (b:=Q2);rfl;rfl;omega)|(apply ajh;rfl;rfl)|(apply ajg;rfl;rfl)|(apply ajw;rfl;rfl)|(apply aiT (n:=s);rfl;rfl;rfl;omega)|apply abx|apply aa|apply abr|apply aaL|apply acG|apply bJ|(apply abA;rfl;rfl)|(apply abC;rfl;rfl)
   refine⟨.inr rfl,rfl,_,rfl,?_,rfl⟩;rw[←f1,←f2,←eR2];rfl
theorem JU {hp:ab}{x y:Option bV}:ab.put (hp++[x]) hp.length y=hp++[y]:=by simp[ab.put]
section
variable {t m:Nat} {x y:aZ} {l:List bz} {pe:List AV} {lo:List (Nat×AV)} {hp:ab} {df wr:List Nat} {L:List Int} {e:TypeId} {a b:Int} {Q:au->Prop}
theorem ajk (hx:(St.mk pe lo (hp++[some (.cells (aq L) e)]) df).ae x=some (.ptr hp.length m))(hy:(St.mk pe lo (hp++[some (.cells (aq L) e)]) df).ae y=some (.uV v))(hi:m<L.length)
 (h:WO M l ⟨⟨pe,lo,hp++[some (.cells (aq (L.set m v)) e)],df⟩,hp.length::wr⟩ Q):WO M (⟨.no,.store 1 x y,none⟩::l) ⟨⟨pe,lo,hp++[some (.cells (aq L) e)],df⟩,wr⟩ Q:=by
 refine aiF hx hy cj hi ?_;rw[JU];exact h
theorem ajl (m:Nat)(hx:(St.mk pe lo hp df).ae x=some (.uV a))(hy:(St.mk pe lo hp df).ae y=some (.uV b))(ha:0<=a/\a<2^m)(hb:0<=b/\b<18446744073709551616)(hm:m<=64)(hd:b%2^m=0)
 (h:WO M l ⟨⟨pe,(t,.uV (a+b))::lo,hp,df⟩,wr⟩ Q):WO M (⟨.l t,.bin .or x y,none⟩::l) ⟨⟨pe,lo,hp,df⟩,wr⟩ Q:=by
 have key:bF ⟨pe,lo,hp,df⟩ (.bin .or x y)=bF ⟨pe,lo,hp,df⟩ (.bin .or y x):=by
  simp only[bF,hx,hy,dS,if_true];rw[BitVec.or_comm]
 obtain⟨⟨k,s',h1,h2⟩⟩:=ajy (M:=M) (t:=t) (l:=l) (Q:=Q) m hy hx hb ha hm hd (by rw[li];exact h);refine⟨⟨k,s',?_,h2⟩⟩;rw[←h1];simp only[fH,fl,cz,bI.bU,Bool.false_eq_true,if_false,key]
end
theorem Wq {hp:ab}{v:AV}{s:au}{x:Option bV}(hh:s.s.hp=hp++[x])(hw:∀z∈s.wr,hp.length<=z)(hv:hp.length<v.top):gh v hp.length s=⟨v,hp++[x],[]⟩:=by
 unfold gh;have hf:s.wr.filter (· < hp.length)=[]:=by
  rw[List.filter_eq_nil_iff];intro z hz;have:=hw z hz;simp;omega
 rw[if_neg (by simp;omega),hh,hf]
theorem JV (hft:M.FT=FT)(l:List Int)(hl:okW wB l)(ll:l.length<100000000)(s:Nat)(hs:s<=63)(hp:ab) :
 ∃r,(r.length=l.length+1/\okW wB r/\WV wB r=WV wB l*2^s)/\bm M 290 [.vs (aq l) l.length c1,.iV s] hp ⟨.sl hp.length 0 (l.length+1) 1 (some (l.length+1)),hp++[some (.cells (aq r) 274)],[]⟩:=by
 have hp2:=cP (n:=2) (m:=s) ao;have hps:=xq (s:=s) ac;have hp3:=cP (n:=2) (m:=64-s) ao;have key:=wH.II (M:=M) (f:=290) (ars:=[.vs (aq l) l.length c1,.iV s]) (h:=hp) (K:=fun hr=>∃r,(r.length=l.length+1/\okW wB r/\WV wB r=WV wB l*2^s)/\hr=⟨.sl hp.length 0 (l.length+1) 1 (some (l.length+1)),hp++[some (.cells (aq r) 274)],[]⟩) (by rw[hft];exact VE) ax (by
  unfold Jy;simp only[enter];repeat' first|apply abx|apply aa|apply abr|apply aaL|apply aef|(apply aeX;rfl;rfl;omega)|(apply aiI;rfl;rfl;omega)|(apply abA;rfl;rfl)|(apply abC;rfl;rfl)
  rw[show ((l.length:Int)+1).toNat=l.length+1 by omega];refine W.jf l.length (fun i s'=>∃L a4 a5 lo wr,s'=⟨⟨[.vs (aq l) l.length c1,.iV s,.ah,.sl hp.length 0 (l.length+1) 1 (some (l.length+1)),a4,a5,.vs (aq l) l.length c1,.iV l.length,.iV i],lo,hp++[some (.cells (aq L) 274)],[]⟩,wr⟩ /\
   L.length=l.length+1/\okW wB L/\(∀k,i<k->L[k]! = 0)/\(L[i]! < 2^s)/\WV wB L=WV wB (l.take i)*2^s/\∀z∈wr,hp.length<=z) (fun i s' hi ⟨L,a4,a5,lo,wr,hs',hL,cw,hz,hlt,hv,hw⟩=>?_) (fun s' ⟨L,a4,a5,lo,wr,hs',hL,cw,hz,hlt,hv,hw⟩=>?_) (gc _)
   ⟨_,_,_,_,_,rfl,ax,lJ ao,fun k _=>lO,by rw[lO];exact hp2,by rw[lK];simp[WV],ax⟩
  . subst hs';have gx:=cL hl hi;rw[show l[i]! = l[((i:Int)).toNat]! from rfl]at gx;obtain⟨x,hx⟩:∃x,x=l[((i:Int)).toNat]! := ⟨_,rfl⟩;rw[←hx]at gx;have gx:0<=x/\x<18446744073709551616:=gx;have gL:=cL cw (i:=i) ac;have gL:0<=L[i]! /\ L[i]! < 18446744073709551616:=gL;have hm:0<=x*2^s%18446744073709551616/\x*2^s%18446744073709551616<18446744073709551616:=by omega
    have hd:x*2^s%18446744073709551616%2^s=0:=by
     rw[Int.emod_emod_of_dvd _ ⟨2^(64-s),hps.symm⟩];exact jj _ _
    have hq:x*2^s/18446744073709551616=x/2^(64-s):=by
     rw[←hps,cD x];exact jN _ _ hp2
    have hq2:0<=x/2^(64-s)/\x/2^(64-s)<2^s:=⟨eA gx.1 (b9 hp3),c7 hp3 (by rw[hps];exact gx.2)⟩;have hsB:(2:Int)^s<=9223372036854775808:=by
     have:=iS (b:=2) ao hs;exact lc this ao
    have hsum:L[i]! + x*2^s%18446744073709551616<18446744073709551616:=by
     obtain⟨k,hk⟩:∃k,x*2^s%18446744073709551616=2^s*k:=⟨x*2^s%18446744073709551616/2^s,by have:=f7 (x*2^s%18446744073709551616) (2^s);omega⟩;have hk2:k<2^(64-s):=d9 (a:=2^s) (by rw[←hk,hps];exact hm.2) (b9 hp2);have:=br (show k+1<=2^(64-s) by omega) (b9 hp2);rw[hps,cZ,←hk]at this;omega
    have eI:0+((i:Int)).toNat*1=i:=by omega
    have eJ:0+((i:Int)+1).toNat*1=i+1:=by omega
    have fin:∀L':List Int,L'=(L.set i (L[i]! + x*2^s%18446744073709551616)).set (i+1) (x/2^(64-s))->L'.length=l.length+1/\okW wB L'/\(∀k,i+1<k->L'[k]! = 0)/\(L'[i+1]! < 2^s)/\WV wB L'=WV wB (l.take (i+1))*2^s:=fun L' hL'=>by
     subst hL';refine⟨by rw[be,be];exact hL,hJ (hJ cw ⟨ac,hsum⟩) ⟨hq2.1,by show _<(18446744073709551616:Int);omega⟩,fun k hk=>by rw[iJ ac,iJ ac];exact hz k ac,by rw[xh (by rw[be];omega)];exact hq2.2,?_⟩;rw[hZ (by rw[be];omega),iJ ac,hz (i+1) ac,hZ ac,fT hi,hv,←hq,cT];have e1:x*2^s=x*2^s%18446744073709551616+18446744073709551616*(x*2^s/18446744073709551616):=by omega
     have e2:l[i]! = x:=hx.symm;rw[e2,dz,cC _ x];have e3:wB^i*(x*2^s)=wB^i*(x*2^s%18446744073709551616)+wB^i*(18446744073709551616*(x*2^s/18446744073709551616)):=by rw[←cZ,←e1]
     rw[e3,show L[i]! + x*2^s%18446744073709551616-L[i]! = x*2^s%18446744073709551616 by omega,gD,cC (wB^i) wB];exact j6 _ _ _
    have eset:¬(0:Int)<s->L.set i (L[i]! + x*2^s%18446744073709551616)=(L.set i (L[i]! + x*2^s%18446744073709551616)).set (i+1) (x/2^(64-s)):=fun h0=>by
     have hs0:s=0:=by omega
     have hx0:x/2^(64-s)=0:=by
      rw[hs0];exact fY gx.1 gx.2
     have h1:(L.set i (L[i]! + x*2^s%18446744073709551616))[i+1]! = 0:=by rw[iJ ac];exact hz (i+1) ac
     have h2:i+1<(L.set i (L[i]! + x*2^s%18446744073709551616)).length:=by rw[be];omega
     rw[getElem!_pos (L.set i (L[i]! + x*2^s%18446744073709551616)) (i+1) h2]at h1;rw[hx0];exact((congrArg (fun z=>(L.set i (L[i]! + x*2^s%18446744073709551616)).set (i+1) z) h1.symm).trans (List.set_getElem_self h2)).symm
    subst hx;unfold Dv;by_cases h0:(0:Int)<s
    . repeat' first|(apply aiM;exact congrArg (fun z=>some (AV.ptr hp.length z)) eI;exact cj;omega)|(apply aje (n:=s);rfl;rfl;rfl;omega)|(apply ajl s;rfl;rfl;exact⟨gL.1,hlt⟩;exact hm;omega;exact hd)|(apply ajk;exact congrArg (fun z=>some (AV.ptr hp.length z)) eI;rfl;omega)|(apply ajk;exact congrArg (fun z=>some (AV.ptr hp.length z)) eJ;rfl;(rw[be];omega))|(apply aiT (n:=64-s);rfl;rfl;omega;omega)|apply abx|apply aa|apply abr|apply aaL|apply aef|apply adA|apply bC|apply afU|apply agy|(apply ahl;rfl)|(apply ahb;rfl;rfl;(first|(simp only[nca];rfl)|rfl))|(apply ahY;rfl;(first|(simp only[nca];rfl)|rfl);(first|(simp only[nca];rfl)|rfl))|(apply acO;rfl)|(apply aep;rfl;rfl)|(apply aeq;rfl;rfl)|(apply aeX;rfl;rfl;omega)|(apply afS;rfl;rfl;omega)|(apply ahT;rfl;rfl;omega)|(apply aic;rfl;rfl;omega)|(apply aib;rfl;exact fun _=>rfl;(first|omega|(simp only[be];omega)|(simp;omega));decide;rfl;case ia=>infer_instance)|(apply abA;rfl;rfl)|(apply abC;rfl;rfl)|(intro _;omega)|intro _
      all_goals try omega
      obtain⟨f1,f2,f3,f4,f5⟩:=fin _ rfl;exact dQ ⟨_,_,_,_,_,rfl,f1,f2,f3,f4,f5,by intro z hz';simp at hz';rcases hz' with rfl|hz';exact bA _;exact hw z hz'⟩
    . repeat' first|(apply aiM;exact congrArg (fun z=>some (AV.ptr hp.length z)) eI;exact cj;omega)|(apply aje (n:=s);rfl;rfl;rfl;omega)|(apply ajl s;rfl;rfl;exact⟨gL.1,hlt⟩;exact hm;omega;exact hd)|(apply ajk;exact congrArg (fun z=>some (AV.ptr hp.length z)) eI;rfl;omega)|apply abx|apply aa|apply abr|apply aaL|apply aef|apply adA|apply bC|apply afU|apply agy|(apply ahl;rfl)|(apply ahb;rfl;rfl;(first|(simp only[nca];rfl)|rfl))|(apply ahY;rfl;(first|(simp only[nca];rfl)|rfl);(first|(simp only[nca];rfl)|rfl))|(apply acO;rfl)|(apply acM;rfl)|(apply aep;rfl;rfl)|(apply aeq;rfl;rfl)|(apply aeX;rfl;rfl;omega)|(apply ahT;rfl;rfl;omega)|(apply aic;rfl;rfl;omega)|(apply aib;rfl;exact fun _=>rfl;(first|omega|(simp only[be];omega)|(simp;omega));decide;rfl;case ia=>infer_instance)|(apply abA;rfl;rfl)|(apply abC;rfl;rfl)|(intro _;omega)|intro _
      all_goals try omega
      obtain⟨f1,f2,f3,f4,f5⟩:=fin _ (eset h0);exact dQ ⟨_,_,_,_,_,rfl,f1,f2,f3,f4,f5,by intro z hz';simp at hz';rcases hz' with rfl|hz';exact bA _;exact hw z hz'⟩
  . subst hs';rw[d7]at hv;unfold Dv;repeat' first|apply abx|apply aa|apply abr|apply aaL|apply acG|apply aeM|apply bH|apply bJ|apply ck|(apply acM;rfl)|(apply aep;rfl;rfl)|(apply abA;rfl;rfl)|(apply abC;rfl;rfl)|(intro _;omega)|intro _
    all_goals try omega
    exact⟨.inr rfl,_,rfl,_,rfl,L,⟨hL,cw,hv⟩,Wq rfl hw (by simp[bk,AV.top])⟩)
 obtain⟨hr,h1,r,h2,rfl⟩:=key.out;exact⟨r,h2,h1⟩
end Go.Ab.Ch5.N

/-
  Own work: Knuth's division: the guess of a digit is at most one too great.
-/
namespace Go.Ab.bB
structure jR (t2 t1 t0 v1 v0 T V p:Int):Prop where
 h2:0<=t2
 h1:0<=t1/\t1<18446744073709551616
 h0:0<=t0/\t0<18446744073709551616
 w1:9223372036854775808<=v1/\v1<18446744073709551616
 w0:0<=v0/\v0<18446744073709551616
 hp:1<=p
 lo:((t2*18446744073709551616+t1)*18446744073709551616+t0)*p<=T
 hi:T<((t2*18446744073709551616+t1)*18446744073709551616+t0+1)*p
 ri:(v1*18446744073709551616+v0)*p<=V
 tn:V<(v1*18446744073709551616+v0+1)*p
 hT:T<18446744073709551616*V
structure iU (t2 t1 v1 T V q r:Int):Prop where
 q0:0<=q/\q<18446744073709551616
 r0:0<=r
 e:q*v1+r=t2*18446744073709551616+t1
 ge:T<(q+1)*V
variable {t2 t1 t0 v1 v0 T V p q r:Int}
theorem jR.top (C:jR t2 t1 t0 v1 v0 T V p):t2<=v1:=by
 have h1:=C.h1;have h0:=C.h0;have w0:=C.w0;have a1:((t2*18446744073709551616+t1)*18446744073709551616+t0)*p<(18446744073709551616*(v1*18446744073709551616+v0+1))*p:=by
  have:=C.lo;have:=C.hT;have:=C.tn;rw[cC 18446744073709551616];omega
 have a2:=i9 a1 (by have:=C.hp;omega);omega
theorem jR.geq (C:jR t2 t1 t0 v1 v0 T V p)(h0:0<=q)(h:(t2*18446744073709551616+t1)*18446744073709551616+t0+1<=q*(v1*18446744073709551616+v0)):T<q*V:=by
 have hp:=C.hp;have a1:=bZ h (show 0<=p by omega);have a2:=br C.ri h0;rw[←cC]at a2;have:=C.hi;omega
theorem iU.qD (I:iU t2 t1 v1 T V q r):q*(v1*18446744073709551616+v0)=(t2*18446744073709551616+t1-r)*18446744073709551616+q*v0:=by
 have e:=I.e;have:t2*18446744073709551616+t1-r=q*v1:=by omega
 rw[this,cZ,cC]
theorem iU.Wr (C:jR t2 t1 t0 v1 v0 T V p)(h:v1<=t2):iU t2 t1 v1 T V 18446744073709551615 (t1+v1):=by
 have:=C.top;have:=C.h1;have:=C.w1;have:=C.hT;exact⟨ac,ac,ac,ac⟩
theorem iU.Ws (C:jR t2 t1 t0 v1 v0 T V p)(h:t2<v1):iU t2 t1 v1 T V ((t2*18446744073709551616+t1)/v1) ((t2*18446744073709551616+t1)%v1):=by
 have h2:=C.h2;have h1:=C.h1;have w1:=C.w1;have h0:=C.h0;have w0:=C.w0;have q0:0<=(t2*18446744073709551616+t1)/v1:=eA ac ac;have q1:(t2*18446744073709551616+t1)/v1<18446744073709551616:=c7 ac ac;have e:=f7 (t2*18446744073709551616+t1) v1;have r0:=i7 (t2*18446744073709551616+t1) (show v1≠0 by omega);have r1:=g9 (t2*18446744073709551616+t1) (show 0<v1 by omega);rw[cD]at e;refine⟨⟨q0,q1⟩,r0,e,C.geq ac ?_⟩;generalize (t2*18446744073709551616+t1)/v1=q at *
 generalize (t2*18446744073709551616+t1)%v1=r at *
 have a1:(q+1)*(v1*18446744073709551616+v0)=(q*v1+v1)*18446744073709551616+(q+1)*v0:=by grind
 have a2:0<=(q+1)*v0:=dc ac w0.1;rw[a1];generalize q*v1=z at *
 generalize (q+1)*v0=y at *
 omega
theorem iU.dec (C:jR t2 t1 t0 v1 v0 T V p)(I:iU t2 t1 v1 T V q r)(h:r*18446744073709551616+t0<q*v0):iU t2 t1 v1 T V (q-1) (r+v1):=by
 have w1:=C.w1;have q0:=I.q0;have r0:=I.r0;have h0:=C.h0;have q1:0<q:=by
  rcases dg 0 q with h'|h'
  . exact h'
  . obtain rfl:q=0:=by omega
    omega
 refine⟨ac,ac,by have:=I.e;rw[iI];omega,?_⟩;rw[Int.sub_add_cancel];refine C.geq ac ?_;rw[I.qD];omega
theorem iU.exit (C:jR t2 t1 t0 v1 v0 T V p)(I:iU t2 t1 v1 T V q r)(h:q*v0<=r*18446744073709551616+t0):(q-1)*V<=T:=by
 have w1:=C.w1;have q0:=I.q0;have r0:=I.r0;have w0:=C.w0;have hp:=C.hp;have a1:q*(v1*18446744073709551616+v0)<=(t2*18446744073709551616+t1)*18446744073709551616+t0:=by rw[I.qD];omega
 have a2:=bZ a1 (show 0<=p by omega);have a3:=br (b9 C.tn) q0.1;have a4:q*((v1*18446744073709551616+v0+1)*p)=q*(v1*18446744073709551616+v0)*p+q*p:=by grind
 have a5:=bZ (show q<=18446744073709551616 by omega) (show 0<=p by omega);have a6:=bZ (show 18446744073709551616<=v1*18446744073709551616+v0 by omega) (show 0<=p by omega);have a7:=C.ri;have a8:=C.lo;rw[iI,fo];omega
theorem iU.nI (C:jR t2 t1 t0 v1 v0 T V p)(I:iU t2 t1 v1 T V q r)(h:18446744073709551616<=r):(q-1)*V<=T:=by
 have q0:=I.q0;have w0:=C.w0;have h0:=C.h0;refine I.exit C ?_;have h3:=iq (a:=q) (b:=v0) (c:=18446744073709551615) (d:=18446744073709551615) ac ac w0.1 ac;omega
theorem kS {b:Int}{l:List Int}{n:Nat}(h:l.length=n+1):WV b l=WV b (l.take n)+b^n*l[n]! := by
 have:=fT (b:=b) (l:=l) (i:=n) ac;rwa [bj ac]at this
theorem jR.of {X V:List Int}{n:Nat}(hX:X.length=n+3)(hV:V.length=n+2)(oX:okW 18446744073709551616 X)(oV:okW 18446744073709551616 V)(hv:9223372036854775808<=V[n+1]!)(hT:WV 18446744073709551616 X<18446744073709551616*WV 18446744073709551616 V) :
 jR X[n+2]! X[n+1]! X[n]! V[n+1]! V[n]! (WV 18446744073709551616 X) (WV 18446744073709551616 V) (18446744073709551616^n):=by
 have x2:=cL oX (i:=n+2) ac;have x1:=cL oX (i:=n+1) ac;have x0:=cL oX (i:=n) ac;have v1:=cL oV (i:=n+1) ac;have v0:=cL oV (i:=n) ac;have eX:WV 18446744073709551616 X=WV 18446744073709551616 (X.take n)+((X[n+2]! * 18446744073709551616+X[n+1]!)*18446744073709551616+X[n]!)*18446744073709551616^n:=by
  rw[kS (n:=n+2) ac,fT ac,fT ac,cT,cT];grind
 have eV:WV 18446744073709551616 V=WV 18446744073709551616 (V.take n)+(V[n+1]! * 18446744073709551616+V[n]!)*18446744073709551616^n:=by
  rw[kS (n:=n+1) ac,fT ac,cT];grind
 have lX:=dU (b:=18446744073709551616) ao (eC oX n);have lV:=dU (b:=18446744073709551616) ao (eC oV n);have pX:=cX (b:=18446744073709551616) ao (eC oX n);have pV:=cX (b:=18446744073709551616) ao (eC oV n);rw[ce,de ac]at lX lV;have hp:(0:Int)<18446744073709551616^n:=cP ao;refine⟨x2.1,x1,x0,⟨hv,v1.2⟩,v0,ac,ac,?_,ac,?_,hT⟩
 . rw[dz _ 1,fo];omega
 . rw[dz _ 1,fo];omega
end Go.Ab.bB

/-
  Own work: words of integers: a digit of a quotient (Knuth's step): the loops.
-/
namespace Go.Ab.Ch5.N
open Go.Ab.bB
variable {M:ay} {cu cv:Option Nat}
def dN (hp:ab)(b:Nat)(e:TypeId)(P S X:List Int):ab:=hp.put b (some (.cells (aq (P++X++S)) e))
theorem JW {hp:ab}{b:Nat}{e:TypeId}{P S X:List Int}:(dN hp b e P S X).length=hp.length:=jM
theorem DI {P X S:List Int}{i:Nat}(hi:i<X.length):(P++X++S)[P.length+i]! = X[i]! := by
 simp only[ci];rw[du,List.getElem?_append_right ac,show P.length+i-P.length=i by omega,jg hi]
theorem JX {P X S:List Int}{i:Nat}{v:Int}(hi:i<X.length):(P++X++S).set (P.length+i) v=P++X.set i v++S:=by
 rw[du,List.set_append_right _ _ ac,show P.length+i-P.length=i by omega,List.set_append_left _ _ hi,du]
section
variable {t bu bv m:Nat} {x y:aZ} {l:List bz} {pe:List AV} {lo:List (Nat×AV)} {hp:ab} {df wr:List Nat} {P S X V Y:List Int} {e e':TypeId} {v:Int} {Q:au->Prop}
theorem aiJ {i:Nat}(hx:(St.mk pe lo (dN hp bu e P S X) df).ae x=some (.ptr bu m))(hl:bu<hp.length)(hi:i<X.length)(hm:m=P.length+i)
 (h:WO M l ⟨⟨pe,(t,.uV X[i]!)::lo,dN hp bu e P S X,df⟩,wr⟩ Q):WO M (⟨.l t,.load 1 false x,none⟩::l) ⟨⟨pe,lo,dN hp bu e P S X,df⟩,wr⟩ Q:=by
 subst hm;refine aiM (L:=P++X++S) (e:=e) hx (by unfold dN;exact cQ hl) (by simp;omega) ?_;rw[DI hi];exact h
theorem xr {Y:Option bV}(hne:bu≠bv):(hp.put bu Y).at bv=hp.at bv:=by
 unfold ab.at ab.put;rw[j3 hne]
theorem aiO {i:Nat}(hx:(St.mk pe lo (dN hp bu e P S X) df).ae x=some (.ptr bv m))(hb:hp.at bv=some (.cells (aq (V++Y)) e'))(hne:bu≠bv)(hi:i<V.length)(hm:m=i)
 (h:WO M l ⟨⟨pe,(t,.uV V[i]!)::lo,dN hp bu e P S X,df⟩,wr⟩ Q):WO M (⟨.l t,.load 1 false x,none⟩::l) ⟨⟨pe,lo,dN hp bu e P S X,df⟩,wr⟩ Q:=by
 subst hm;refine aiM (L:=V++Y) (e:=e') hx (by unfold dN;rw[xr hne];exact hb) (by rw[List.length_append];omega) ?_;have:(V++Y)[m]! = V[m]! := by
  simp only[ci];rw[jg hi]
 rw[this];exact h
theorem aiY {i:Nat}(hx:(St.mk pe lo (dN hp bu e P S X) df).ae x=some (.ptr bu m))(hy:(St.mk pe lo (dN hp bu e P S X) df).ae y=some (.uV v))(hl:bu<hp.length)(hi:i<X.length)(hm:m=P.length+i)
 (h:WO M l ⟨⟨pe,lo,dN hp bu e P S (X.set i v),df⟩,bu::wr⟩ Q):WO M (⟨.no,.store 1 x y,none⟩::l) ⟨⟨pe,lo,dN hp bu e P S X,df⟩,wr⟩ Q:=by
 subst hm;refine aiF (L:=P++X++S) (e:=e) hx hy (by unfold dN;exact cQ hl) (by simp;omega) ?_;rw[JX hi];have:ab.put (dN hp bu e P S X) bu (some (.cells (aq (P++X.set i v++S)) e))=dN hp bu e P S (X.set i v):=by unfold dN;exact wF
 rw[this];exact h
end
variable {bu bv k:Nat} {e e':TypeId} {hp:ab} {P S X V Y:List Int}
theorem JY (C:nH M)(hl:bu<hp.length)(hne:bu≠bv)(hb:hp.at bv=some (.cells (aq (V++Y)) e'))(lk:k<10000000)(hX:X.length=k+3)(hV:V.length=k+2)
 {t2 t1 T D p:Int} (K:jR t2 t1 X[k]! V[k+1]! V[k]! T D p) {Q:Ex->au->Prop} (a2 a9 aA aB aC aD aE aF aG aH aI aJ aK:AV) (wr:List Nat)
 (hQ:∀(q rh ov:Int) a7 a8 lo,(0<=q/\q<18446744073709551616)->T<(q+1)*D->(q-1)*D<=T ->
   Q (.exit 0) ⟨⟨[.sl bu P.length (k+3) 1 cu,.sl bv 0 (k+2) 1 cv,a2,.iV ((k+2:Nat):Int),.uV q,.uV rh,.uV ov,a7,a8,a9,aA,aB,aC,aD,aE,aF,aG,aH,aI,aJ,aK],lo,dN hp bu e P S X,[]⟩,wr⟩)
 (q rh ov:Int) (a7 a8:AV) (lo:List (Nat×AV)) (I:iU t2 t1 V[k+1]! T D q (rh+18446744073709551616*ov)) (hrh:0<=rh/\rh<18446744073709551616) (hov:0<=ov/\ov<=1) :
 W M (.loop Dx) ⟨⟨[.sl bu P.length (k+3) 1 cu,.sl bv 0 (k+2) 1 cv,a2,.iV ((k+2:Nat):Int),.uV q,.uV rh,.uV ov,a7,a8,a9,aA,aB,aC,aD,aE,aF,aG,aH,aI,aJ,aK],lo,dN hp bu e P S X,[]⟩,wr⟩ Q:=by
 refine W.ir (fun m s=>∃q rh ov a7 a8 lo,s=⟨⟨[.sl bu P.length (k+3) 1 cu,.sl bv 0 (k+2) 1 cv,a2,.iV ((k+2:Nat):Int),.uV q,.uV rh,.uV ov,a7,a8,a9,aA,aB,aC,aD,aE,aF,aG,aH,aI,aJ,aK],lo,dN hp bu e P S X,[]⟩,wr⟩ /\
  m=q.toNat/\iU t2 t1 V[k+1]! T D q (rh+18446744073709551616*ov)/\(0<=rh/\rh<18446744073709551616)/\(0<=ov/\ov<=1)) (fun m s ⟨q,rh,ov,a7,a8,lo,hs,hm,I,hrh,hov⟩=>?_) (m:=q.toNat) ⟨q,rh,ov,a7,a8,lo,rfl,rfl,I,hrh,hov⟩
 subst hs;subst hm;have q0:=I.q0;have w0:=K.w0;have w1:=K.w1;have t0:=K.h0;unfold Dx;by_cases ho:ov=0
 . subst ho;rw[c6,d8]at I;have q259:=fun h=>C.pw q V[k]! h q0 w0
   obtain⟨m,hm⟩:∃m,m=q*V[k]! := ⟨_,rfl⟩;have hmb:=xk q0 w0;rw[←hm]at q259 hmb;by_cases ht:m<=rh*18446744073709551616+X[k]!
   . have hfin:=I.exit K (by rw[←hm];exact ht);repeat' first|(apply aiJ (i:=k);rfl;exact hl;omega;omega)|(apply aiO (i:=k);rfl;exact hb;exact hne;omega;omega)|apply abx|apply aa|apply abr|apply aaL|apply aef|apply aeM|apply adA|apply bH|(apply dT;rfl)|apply ck|(apply acO;rfl)|(apply afg;rfl)|(apply ahQ;rfl)|(apply aid;rfl)|(apply aiK;rfl)|(apply aep;rfl;rfl)|(apply aiw;rfl;rfl)|(apply afe;rfl;rfl)|(apply aeB;rfl;rfl)|(apply aeC;rfl;rfl)|(apply afS;rfl;rfl;omega)|(apply adX;rfl;rfl;first|exact q259 _)|(apply aic;rfl;rfl;omega)|(apply abA;rfl;rfl)|(apply abC;rfl;rfl)|(intro _;omega)|intro _
     all_goals try omega
     all_goals exact hQ _ _ _ _ _ _ q0 I.ge hfin
   . have I2:=I.dec K (by rw[←hm];omega);have q310:=fun h=>C.nF rh V[k+1]! 0 h ac ac ao ao
     have e1:(rh+V[k+1]! + 0)%18446744073709551616+18446744073709551616*((rh+V[k+1]! + 0)/18446744073709551616)=rh+V[k+1]! := by omega
     have i0:=I2.q0;repeat' first|(apply aiJ (i:=k);rfl;exact hl;omega;omega)|(apply aiO (i:=k);rfl;exact hb;exact hne;omega;omega)|(apply aiO (i:=k+1);rfl;exact hb;exact hne;omega;omega)|(apply aiG;rfl;rfl;omega)|apply abx|apply aa|apply abr|apply aaL|apply aef|apply adA|apply bC|(apply acO;rfl)|(apply acM;rfl)|(apply afg;rfl)|(apply ahQ;rfl)|(apply ahU;rfl)|(apply aep;rfl;rfl)|(apply aiw;rfl;rfl)|(apply afe;rfl;rfl)|(apply aeB;rfl;rfl)|(apply aeC;rfl;rfl)|(apply afS;rfl;rfl;omega)|(apply adX;rfl;rfl;first|exact q259 _|exact q310 _)|(apply aic;rfl;rfl;omega)|(apply abA;rfl;rfl)|(apply abC;rfl;rfl)|(intro _;omega)|intro _
     all_goals try omega
     all_goals exact dQ ⟨(q-1).toNat,ac,q-1,_,_,_,_,_,rfl,rfl,by rw[e1];exact I2,ac,ac⟩
 . have h1:ov=1:=by omega
   subst h1;have hfin:=I.nI K ac;repeat' first|apply abx|apply aa|apply abr|apply aaL|apply aeM|apply bH|apply ck|(apply acM;rfl)|(apply afe;rfl;rfl)|(apply abA;rfl;rfl)|(intro _;omega)|intro _
   all_goals try omega
   all_goals exact hQ _ _ _ _ _ _ q0 I.ge hfin
theorem Wt (C:nH M)(hl:bu<hp.length)(hne:bu≠bv)(hb:hp.at bv=some (.cells (aq (V++Y)) e'))(lk:k<10000000)(hX:X.length=k+3)(oX:okW wB X)(hV:V.length=k+2)(oV:okW wB V)
 (q:Int) (q0:0<=q/\q<18446744073709551616) {Q:Ex->au->Prop} (a2 a5 a6 a7 a8 aB aC aD aE aF aG aJ aK:AV) (lo:List (Nat×AV))
 (hQ:∀L (bo ca:Int) aB aC aD aE lo wr,L.length=k+3->okW wB L->L[k+2]! = X[k+2]! -> (0<=bo/\bo<=1)->(0<=ca/\ca<18446744073709551616)->(∀z∈wr,z=bu)->WV wB L=WV wB X-q*WV wB V+wB^(k+2)*(ca+bo) ->
   Q (.exit 2) ⟨⟨[.sl bu P.length (k+3) 1 cu,.sl bv 0 (k+2) 1 cv,a2,.iV ((k+2:Nat):Int),.uV q,a5,a6,a7,a8,.uV bo,.uV ca,aB,aC,aD,aE,aF,aG,.iV ((k+2:Nat):Int),.iV ((k+2:Nat):Int),aJ,aK],lo,dN hp bu e P S L,[]⟩,wr⟩) :
 W M (.loop td) ⟨⟨[.sl bu P.length (k+3) 1 cu,.sl bv 0 (k+2) 1 cv,a2,.iV ((k+2:Nat):Int),.uV q,a5,a6,a7,a8,.uV 0,.uV 0,aB,aC,aD,aE,aF,aG,.iV ((k+2:Nat):Int),.iV 0,aJ,aK],lo,dN hp bu e P S X,[]⟩,[]⟩ Q:=by
 refine W.jf (k+2) (fun i s=>∃L bo ca aB aC aD aE lo wr,s=⟨⟨[.sl bu P.length (k+3) 1 cu,.sl bv 0 (k+2) 1 cv,a2,.iV ((k+2:Nat):Int),.uV q,a5,a6,a7,a8,.uV bo,.uV ca,aB,aC,aD,aE,aF,aG,.iV ((k+2:Nat):Int),.iV i,aJ,aK],lo,dN hp bu e P S L,[]⟩,wr⟩ /\
  L.length=k+3/\okW wB L/\L[k+2]! = X[k+2]! /\ (0<=bo/\bo<=1)/\(0<=ca/\ca<18446744073709551616)/\(∀z∈wr,z=bu)/\WV wB L=WV wB X-q*WV wB (V.take i)+wB^i*(ca+bo)) (fun i s hi ⟨L,bo,ca,aB,aC,aD,aE,lo,wr,hs,hL,oL,ht,hbo,hca,hw,hv⟩=>?_) (fun s ⟨L,bo,ca,aB,aC,aD,aE,lo,wr,hs,hL,oL,ht,hbo,hca,hw,hv⟩=>?_) (gc _)
  ⟨_,_,_,_,_,_,_,_,_,rfl,hX,oX,rfl,⟨ao,ao⟩,⟨ao,ao⟩,ax,by simp[WV]⟩
 . subst hs;have gy:=cL oV (i:=i) ac;obtain⟨y,hy⟩:∃y,y=V[i]! := ⟨_,rfl⟩;rw[←hy]at gy;have gy:0<=y/\y<18446744073709551616:=gy;have gL:=cL oL (i:=i) ac;obtain⟨u,hu⟩:∃u,u=L[i]! := ⟨_,rfl⟩;rw[←hu]at gL;have gL:0<=u/\u<18446744073709551616:=gL;have q259:=fun h=>C.pw q y h q0 gy
   have hm:=xk q0 gy;obtain⟨m,hmm⟩:∃m,m=q*y:=⟨_,rfl⟩;rw[←hmm]at q259 hm;have q310:=fun h=>C.nF (m%18446744073709551616) ca 0 h ac hca.1 ao ao
   obtain⟨S1,hS1⟩:∃S1,S1=(m%18446744073709551616+ca+0)%18446744073709551616:=⟨_,rfl⟩;obtain⟨S2,hS2⟩:∃S2,S2=(m%18446744073709551616+ca+0)/18446744073709551616:=⟨_,rfl⟩;rw[←hS1,←hS2]at q310;obtain⟨D,hD⟩:∃D:Int,D=if u<S1+bo then 1 else 0:=⟨_,rfl⟩
   have q330:=fun h=>C.xj u S1 bo h gL.1 gL.2 ac ac hbo.1 hbo.2
   obtain⟨d,hd⟩:∃d,d=(u-S1-bo)%18446744073709551616:=⟨_,rfl⟩;rw[←hD,←hd]at q330;have hD2:0<=D/\D<=1/\u-S1-bo=d-18446744073709551616*D/\0<=d/\d<18446744073709551616:=by
    rw[hD];split <;> omega
   have hC2:(0<=m/18446744073709551616+S2/\m/18446744073709551616+S2<18446744073709551616)/\m+ca=S1+18446744073709551616*(m/18446744073709551616+S2):=by omega
   obtain⟨c2,hc2⟩:∃c2,c2=m/18446744073709551616+S2:=⟨_,rfl⟩;have next:∀aB aC aD aE lo,LI (fun s=>∃L bo ca aB aC aD aE lo wr,s=⟨⟨[.sl bu P.length (k+3) 1 cu,.sl bv 0 (k+2) 1 cv,a2,.iV ((k+2:Nat):Int),.uV q,a5,a6,a7,a8,.uV bo,.uV ca,aB,aC,aD,aE,aF,aG,.iV ((k+2:Nat):Int),.iV ((i+1:Nat):Int),aJ,aK],lo,dN hp bu e P S L,[]⟩,wr⟩ /\
    L.length=k+3/\okW wB L/\L[k+2]! = X[k+2]! /\ (0<=bo/\bo<=1)/\(0<=ca/\ca<18446744073709551616)/\(∀z∈wr,z=bu)/\WV wB L=WV wB X-q*WV wB (V.take (i+1))+wB^(i+1)*(ca+bo)) Q .normal ⟨⟨[.sl bu P.length (k+3) 1 cu,.sl bv 0 (k+2) 1 cv,a2,.iV ((k+2:Nat):Int),.uV q,a5,a6,a7,a8,.uV D,.uV (m/18446744073709551616+S2),aB,aC,aD,aE,aF,aG,.iV ((k+2:Nat):Int),.iV ((i:Int)+1),aJ,aK],lo,dN hp bu e P S (L.set i d),[]⟩,bu::wr⟩:=fun aB aC aD aE lo=>
    dQ ⟨_,_,_,aB,aC,aD,aE,lo,_,rfl,by rw[be];exact hL,hJ oL hD2.2.2.2,by rw[iJ ac];exact ht,⟨hD2.1,hD2.2.1⟩,hC2.1,by simpa using hw,by
     rw[hZ ac,←hu,fT ac,←hy,hv,cT];have e1:d-u=18446744073709551616*D+18446744073709551616*(m/18446744073709551616+S2)-q*y-ca-bo:=by rw[←hmm];omega
     rw[e1,←hc2];show _+wB^i*(18446744073709551616*D+18446744073709551616*c2-q*y-ca-bo)=_-_+wB^i*18446744073709551616*(c2+D);grind⟩
   rw[hy]at q259;rw[hu]at q330;unfold td;repeat' first|(apply aiJ (i:=i);rfl;exact hl;omega;omega)|(apply aiO (i:=i);rfl;exact hb;exact hne;omega;omega)|(apply aiY (i:=i);rfl;rfl;exact hl;omega;omega)|(apply aiC (a:=m/18446744073709551616);rfl;rfl;omega)|apply abx|apply aa|apply abr|apply aaL|apply aef|apply adA|apply bC|(apply acO;rfl)|(apply aep;rfl;rfl)|(apply aeX;rfl;rfl;omega)|(apply adX;rfl;rfl;first|exact q259 _|exact q310 _|exact q330 _)|(apply aic;rfl;rfl;omega)|(apply abA;rfl;rfl)|(apply abC;rfl;rfl)|(intro _;omega)|intro _
   all_goals try omega
   all_goals exact next _ _ _ _ _
 . subst hs;rw[bj ac]at hv;unfold td;repeat' first|apply abx|apply aa|apply abr|apply aaL|apply aeM|apply bH|apply ck|(apply acM;rfl)|(apply aep;rfl;rfl)|(intro _;omega)|intro _
   all_goals try omega
   exact hQ L bo ca _ _ _ _ _ _ hL oL ht hbo hca hw hv
theorem Wu (C:nH M)(hl:bu<hp.length)(hne:bu≠bv)(hb:hp.at bv=some (.cells (aq (V++Y)) e'))(lk:k<10000000)(hX:X.length=k+3)(oX:okW wB X)(hV:V.length=k+2)(oV:okW wB V)
 {Q:Ex->au->Prop} (a2 a4 a5 a6 a7 a8 a9 aA aB aC aD aE aG aH aI:AV) (lo:List (Nat×AV)) (wr:List Nat) (hwr:∀z∈wr,z=bu)
 (hQ:∀L (ca:Int) aG lo wr,L.length=k+3->okW wB L->L[k+2]! = X[k+2]! -> (0<=ca/\ca<=1)->(∀z∈wr,z=bu)->WV wB L+wB^(k+2)*ca=WV wB X+WV wB V ->
   Q (.exit 4) ⟨⟨[.sl bu P.length (k+3) 1 cu,.sl bv 0 (k+2) 1 cv,a2,.iV ((k+2:Nat):Int),a4,a5,a6,a7,a8,a9,aA,aB,aC,aD,aE,.uV ca,aG,aH,aI,.iV ((k+2:Nat):Int),.iV ((k+2:Nat):Int)],lo,dN hp bu e P S L,[]⟩,wr⟩) :
 W M (.loop tg) ⟨⟨[.sl bu P.length (k+3) 1 cu,.sl bv 0 (k+2) 1 cv,a2,.iV ((k+2:Nat):Int),a4,a5,a6,a7,a8,a9,aA,aB,aC,aD,aE,.uV 0,aG,aH,aI,.iV ((k+2:Nat):Int),.iV 0],lo,dN hp bu e P S X,[]⟩,wr⟩ Q:=by
 refine W.jf (k+2) (fun i s=>∃L ca aG lo wr,s=⟨⟨[.sl bu P.length (k+3) 1 cu,.sl bv 0 (k+2) 1 cv,a2,.iV ((k+2:Nat):Int),a4,a5,a6,a7,a8,a9,aA,aB,aC,aD,aE,.uV ca,aG,aH,aI,.iV ((k+2:Nat):Int),.iV i],lo,dN hp bu e P S L,[]⟩,wr⟩ /\
  L.length=k+3/\okW wB L/\L[k+2]! = X[k+2]! /\ (0<=ca/\ca<=1)/\(∀z∈wr,z=bu)/\WV wB L+wB^i*ca=WV wB X+WV wB (V.take i)) (fun i s hi ⟨L,ca,aG,lo,wr,hs,hL,oL,ht,hca,hw,hv⟩=>?_) (fun s ⟨L,ca,aG,lo,wr,hs,hL,oL,ht,hca,hw,hv⟩=>?_) (gc _)
  ⟨_,_,_,_,_,rfl,hX,oX,rfl,⟨ao,ao⟩,hwr,by simp[WV]⟩
 . subst hs;have gy:=cL oV (i:=i) ac;obtain⟨y,hy⟩:∃y,y=V[i]! := ⟨_,rfl⟩;rw[←hy]at gy;have gy:0<=y/\y<18446744073709551616:=gy;have gL:=cL oL (i:=i) ac;obtain⟨u,hu⟩:∃u,u=L[i]! := ⟨_,rfl⟩;rw[←hu]at gL;have gL:0<=u/\u<18446744073709551616:=gL;have q310:=fun h=>C.nF u y ca h gL.1 gy.1 hca.1 hca.2
   obtain⟨d,hd⟩:∃d,d=(u+y+ca)%18446744073709551616:=⟨_,rfl⟩;obtain⟨D,hD⟩:∃D,D=(u+y+ca)/18446744073709551616:=⟨_,rfl⟩;rw[←hD,←hd]at q310;have hD2:(0<=D/\D<=1)/\u+y+ca=d+18446744073709551616*D/\0<=d/\d<18446744073709551616:=by omega
   have next:∀aG lo,LI (fun s=>∃L ca aG lo wr,s=⟨⟨[.sl bu P.length (k+3) 1 cu,.sl bv 0 (k+2) 1 cv,a2,.iV ((k+2:Nat):Int),a4,a5,a6,a7,a8,a9,aA,aB,aC,aD,aE,.uV ca,aG,aH,aI,.iV ((k+2:Nat):Int),.iV ((i+1:Nat):Int)],lo,dN hp bu e P S L,[]⟩,wr⟩ /\
    L.length=k+3/\okW wB L/\L[k+2]! = X[k+2]! /\ (0<=ca/\ca<=1)/\(∀z∈wr,z=bu)/\WV wB L+wB^(i+1)*ca=WV wB X+WV wB (V.take (i+1))) Q .normal ⟨⟨[.sl bu P.length (k+3) 1 cu,.sl bv 0 (k+2) 1 cv,a2,.iV ((k+2:Nat):Int),a4,a5,a6,a7,a8,a9,aA,aB,aC,aD,aE,.uV D,aG,aH,aI,.iV ((k+2:Nat):Int),.iV ((i:Int)+1)],lo,dN hp bu e P S (L.set i d),[]⟩,bu::wr⟩:=fun aG lo=>
    dQ ⟨_,_,aG,lo,_,rfl,by rw[be];exact hL,hJ oL hD2.2.2,by rw[iJ ac];exact ht,hD2.1,by simpa using hw,by
     rw[hZ ac,←hu,fT ac,←hy,cT];have e1:d-u=y+ca-18446744073709551616*D:=by omega
     rw[e1];show WV wB L+wB^i*(y+ca-18446744073709551616*D)+wB^i*18446744073709551616*D=_;grind⟩
   rw[hy,hu]at q310;unfold tg;repeat' first|(apply aiJ (i:=i);rfl;exact hl;omega;omega)|(apply aiO (i:=i);rfl;exact hb;exact hne;omega;omega)|(apply aiY (i:=i);rfl;rfl;exact hl;omega;omega)|(apply ahR;rfl;rfl;(first|(simp only[nca];rfl)|rfl);first|exact q310 _)|apply abx|apply aa|apply abr|apply aaL|apply aef|apply adA|apply bC|apply afU|apply agy|(apply ahl;rfl)|(apply ahb;rfl;rfl;(first|(simp only[nca];rfl)|rfl))|(apply ahY;rfl;(first|(simp only[nca];rfl)|rfl);(first|(simp only[nca];rfl)|rfl))|(apply acO;rfl)|(apply aep;rfl;rfl)|(apply aeX;rfl;rfl;omega)|(apply aic;rfl;rfl;omega)|(apply abA;rfl;rfl)|(apply abC;rfl;rfl)|(intro _;omega)|intro _
   all_goals try omega
   all_goals exact next _ _
 . subst hs;rw[bj ac]at hv;unfold tg;repeat' first|apply abx|apply aa|apply abr|apply aaL|apply aeM|apply bH|apply ck|(apply acM;rfl)|(apply aep;rfl;rfl)|(intro _;omega)|intro _
   all_goals try omega
   exact hQ L ca _ _ _ hL oL ht hca hw hv
structure DJ (M:ay):Prop extends nH M where
 DK:∀(hi lo y:Int) h,(0<y/\y<18446744073709551616)->(0<=hi/\hi<y)->(0<=lo/\lo<18446744073709551616)->M.ext 287 [.uV hi,.uV lo,.uV y] h=some ⟨.aw [.uV ((hi*18446744073709551616+lo)/y),.uV ((hi*18446744073709551616+lo)%y)],h,[]⟩
def t291:al:=
 zR [⟨(.p 9),.mv (kU 0),none⟩,
          ⟨(.p 10),.mv (kU 0),none⟩]
        (
         .seq (zR [⟨(.p 17),.mv (.p 3),none⟩,
            zi 18 0]
          (
           .block 2
           (.loop td)))
         (
          zR [zm 141 0,
            zm 142 3,
            zm 143 0,
            zm 144 3,
            za 145 1 143 144,
            zd 146 1 145,
            zm 147 10,
            zm 148 9,
            ⟨(.l 149),.call (kF 330) [(.l 146),(.l 147),(.l 148)],none⟩,
            zn 140 149,
            ze 150 0 140,
            ze 151 1 140,
            za 152 1 141 142,
            zS 1 152 150,
            zw 9 151]
          (
           .seq (zR [zm 153 9,
              ⟨(.l 154),.bin .eql (.l 153) (kU 0),none⟩]
            (
             .cond (.l 154)
             (
              zR [zm 155 4,
                zw 2 155]
              (.ret))
             (.skip)))
           (
            zR [⟨(.p 15),.mv (kU 0),none⟩]
            (
             .seq (zR [⟨(.p 19),.mv (.p 3),none⟩,
                zi 20 0]
              (
               .block 4
               (.loop tg)))
             (
              zR [zm 177 0,
                zm 178 3,
                za 179 1 177 178,
                zd 180 1 179,
                zm 181 15,
                zb 182 .add 180 181,
                za 183 1 177 178,
                zS 1 183 182]
              (
               zR [zm 184 4,
                 ⟨(.l 185),.bin .sub (.l 184) (kU 1),none⟩,
                 zw 2 185]
               (.ret))))))))
def rj (X V:List Int)(q:Int)(R:List Int):Prop:=(0<=q/\q<18446744073709551616)/\R.length=X.length/\okW wB R/\WV wB R=WV wB X-q*WV wB V/\WV wB R<WV wB V
theorem Wv {X V L:List Int}{q ca bo d b:Int}{n:Nat}(hL:L.length=n+1)(oL:okW wB L)(hv:WV wB L=WV wB X-q*WV wB V+wB^n*(ca+bo))(hd:L[n]! - ca-bo=d-18446744073709551616*b)(hd2:0<=d/\d<18446744073709551616) :
 okW wB (L.set n d)/\WV wB (L.set n d)=WV wB X-q*WV wB V+wB^(n+1)*b:=by
 refine⟨hJ oL hd2,?_⟩;rw[hZ ac,hv,cT];have e:d-L[n]! = 18446744073709551616*b-ca-bo:=by omega
 rw[e];show _+wB^n*(18446744073709551616*b-ca-bo)=_-_+wB^n*18446744073709551616*b;grind
theorem Ww {X V R:List Int}{q:Int}(hR:R.length=X.length)(oR:okW wB R)(hq:0<=q/\q<18446744073709551616)(hv:WV wB R=WV wB X-q*WV wB V)(hge:WV wB X<(q+1)*WV wB V):rj X V q R:=by
 refine⟨hq,hR,oR,hv,?_⟩;rw[dz,fo]at hge;omega
theorem Wx {X V R L:List Int}{q ca d:Int}{n:Nat}(_oV:okW wB V)(_hV:V.length=n)(hX:X.length=n+1)(oR:okW wB R)(hR:R.length=n+1)(hv:WV wB R=WV wB X-q*WV wB V+wB^(n+1))(h0:0<=WV wB X)(hle:(q-1)*WV wB V<=WV wB X)(hq:0<=q/\q<18446744073709551616)
 (hL:L.length=n+1) (oL:okW wB L) (ht:L[n]! = d) (hl:WV wB L+wB^n*ca=WV wB R+WV wB V) (hca:0<=ca/\ca<=1) :
 1<=q/\rj X V (q-1) (L.set n ((d+ca)%18446744073709551616)):=by
 have lR:=dU (b:=wB) ao oR;rw[hR]at lR;have hp:wB^(n+1)=wB^n*18446744073709551616:=cT _ _;have hp0:0<wB^n:=cP ao;have q1:1<=q:=by
  rcases dg 0 q with h|h
  . omega
  . obtain rfl:q=0:=by omega
    rw[Int.zero_mul]at hv;omega
 have gd:=cL oL (i:=n) ac;rw[ht]at gd;have gd:0<=d/\d<18446744073709551616:=gd;obtain⟨f,hf⟩:∃f,f=(d+ca)/18446744073709551616:=⟨_,rfl⟩;have hf2:(d+ca)%18446744073709551616-d=ca-18446744073709551616*f/\0<=f/\f<=1:=by omega
 have oN:okW wB (L.set n ((d+ca)%18446744073709551616)):=hJ oL ⟨ac,by show _<(18446744073709551616:Int);omega⟩;have eN:WV wB (L.set n ((d+ca)%18446744073709551616))=WV wB X-(q-1)*WV wB V+wB^(n+1)*(1-f):=by
  rw[hZ ac,ht,hf2.1,hp];rw[hp]at hv;have e1:wB^n*(ca-18446744073709551616*f)=wB^n*ca-wB^n*18446744073709551616*f:=by rw[ii,cC]
  have e2:wB^n*18446744073709551616*(1-f)=wB^n*18446744073709551616-wB^n*18446744073709551616*f:=by rw[ii,iH]
  rw[e1,e2,iI,fo];generalize wB^n*ca=z1 at *
  generalize wB^n*18446744073709551616*f=z2 at *
  generalize wB^n*18446744073709551616=z3 at *
  omega
 have lN:=dU (b:=wB) ao oN;rw[be,hL]at lN;have f1:f=1:=by
  rcases dg 0 f with h|h
  . omega
  . obtain rfl:f=0:=by omega
    rw[gD,iH]at eN;omega
 subst f1;rw[Int.sub_self,c6,d8]at eN;refine⟨q1,ac,by rw[be];omega,oN,eN,?_⟩;rw[eN,iI,fo];omega
theorem JZ (C:nH M)(hl:bu<hp.length)(hne:bu≠bv)(hb:hp.at bv=some (.cells (aq (V++Y)) e'))(lk:k<10000000)(hX:X.length=k+3)(oX:okW wB X)(hV:V.length=k+2)(oV:okW wB V)
 (q:Int) (q0:0<=q/\q<18446744073709551616) (hge:WV wB X<(q+1)*WV wB V) (hle:(q-1)*WV wB V<=WV wB X) (a2 a5 a6 a7 a8 a9 aA aB aC aD aE aF aG aH aI aJ aK:AV) (lo:List (Nat×AV)) :
 W M t291 ⟨⟨[.sl bu P.length (k+3) 1 cu,.sl bv 0 (k+2) 1 cv,a2,.iV ((k+2:Nat):Int),.uV q,a5,a6,a7,a8,a9,aA,aB,aC,aD,aE,aF,aG,aH,aI,aJ,aK],lo,dN hp bu e P S X,[]⟩,[]⟩
  (fun x s=>(x = .normal\/x = .ret)/\s.s.cI=[]/\∃vs,dK s.s [.var (.p 2)]=some vs/\∃q R,rj X V q R/\s.s.hp=dN hp bu e P S R/\(∀z∈s.wr,z=bu)/\bk vs = .uV q):=by
 have hX0:=cX (b:=wB) ao oX;unfold t291;repeat' first|apply abx|apply aa|apply abr|apply aaL|apply aef|(apply abC;rfl;rfl)
 refine Wt C hl hne hb lk hX oX hV oV q q0 _ _ _ _ _ _ _ _ _ _ _ _ _ _ (fun L bo ca aB aC aD aE lo wr hL oL ht hbo hca hw hv=>?_);have gt:=cL oL (i:=k+2) ac;obtain⟨t,htt⟩:∃t,t=L[k+2]! := ⟨_,rfl⟩;rw[←htt]at gt;have gt:0<=t/\t<18446744073709551616:=gt;obtain⟨b,hbb⟩:∃b:Int,b=if t<ca+bo then 1 else 0:=⟨_,rfl⟩
 obtain⟨d,hd⟩:∃d,d=(t-ca-bo)%18446744073709551616:=⟨_,rfl⟩;have q330:=fun h=>C.xj t ca bo h gt.1 gt.2 hca.1 hca.2 hbo.1 hbo.2
 rw[←hbb,←hd]at q330;have hb2:(b=0\/b=1)/\t-ca-bo=d-18446744073709551616*b/\0<=d/\d<18446744073709551616:=by
  rw[hbb];split <;> omega
 obtain⟨oR,vR⟩:=Wv hL oL hv (by rw[←htt];exact hb2.2.1) hb2.2.2;obtain⟨R,hR⟩:∃R,R=L.set (k+2) d:=⟨_,rfl⟩;have lR:R.length=k+3:=by rw[hR,be];exact hL
 have tR:R[k+2]! = d:=by rw[hR];exact xh ac
 rw[←hR]at oR vR;have hw2:∀z∈bu::wr,z=bu:=by simpa using hw
 rw[htt]at q330;rcases hb2.1 with rfl|rfl
 . rw[c6,d8]at vR;have fin:=Ww (X:=X) (V:=V) ac oR q0 vR hge;rw[hR]at fin;repeat' first|(apply aiJ (i:=k+2);rfl;exact hl;omega;omega)|(apply aiY (i:=k+2);rfl;rfl;exact hl;omega;omega)|apply abx|apply aa|apply abr|apply aaL|apply acG|apply ba|apply bJ|(apply acO;rfl)|(apply afe;rfl;rfl)|(apply adX;rfl;rfl;first|exact q330 _)|(apply aic;rfl;rfl;omega)|(apply abA;rfl;rfl)|(apply abC;rfl;rfl)|(intro _;omega)|intro _
   all_goals try omega
   exact⟨.inr rfl,rfl,_,rfl,q,_,fin,rfl,hw2,rfl⟩
 . rw[iH]at vR;have back:=fun (L':List Int) (ca:Int) h1 h2 h3 h4 h5=>Wx (X:=X) (V:=V) (R:=R) (L:=L') (q:=q) (ca:=ca) (d:=d) (n:=k+2) oV hV hX oR lR vR hX0 hle q0 h1 h2 h3 h4 h5
   rw[hR]at lR oR tR back;repeat' first|(apply aiJ (i:=k+2);rfl;exact hl;omega;omega)|(apply aiY (i:=k+2);rfl;rfl;exact hl;omega;omega)|apply abx|apply aa|apply abr|apply aaL|apply aef|apply adA|apply bJ|(apply acM;rfl)|(apply afe;rfl;rfl)|(apply adX;rfl;rfl;first|exact q330 _)|(apply aic;rfl;rfl;omega)|(apply abA;rfl;rfl)|(apply abC;rfl;rfl)|(intro _;omega)|intro _
   all_goals try omega
   refine Wu C hl hne hb lk lR oR hV oV _ _ _ _ _ _ _ _ _ _ _ _ _ _ _ _ _ hw2 (fun L' c2 aG lo wr hL' oL' ht' hc2 hw' hv'=>?_);rw[tR]at ht';obtain⟨q1,fin⟩:=back L' c2 hL' oL' ht' hv' hc2;rw[←ht']at fin;have hw3:∀z∈bu::wr,z=bu:=by simpa using hw'
   repeat' first|(apply aiJ (i:=k+2);rfl;exact hl;omega;omega)|(apply aiY (i:=k+2);rfl;rfl;exact hl;omega;omega)|(apply aiG (a:=q);rfl;rfl;omega)|(apply ajg;rfl;rfl)|apply abx|apply aa|apply abr|apply aaL|apply acG|apply bJ|(apply aic;rfl;rfl;omega)|(apply abA;rfl;rfl)|(apply abC;rfl;rfl)
   all_goals try omega
   exact⟨.inr rfl,rfl,_,rfl,q-1,_,fin,rfl,hw3,rfl⟩
theorem Wy {n:Nat}{v:AV}{s:au}(hh:s.s.hp.length=n):gh v n s=⟨v,s.s.hp,s.wr.filter (· < n)⟩:=by
 unfold gh;split
 . rw[bj ac]
 . rfl
theorem Wz (C:DJ M)(hl:bu<hp.length)(hne:bu≠bv)(hb:hp.at bv=some (.cells (aq (V++Y)) e'))(lk:k<10000000)(hX:X.length=k+3)(oX:okW wB X)(hV:V.length=k+2)(oV:okW wB V)(hv:9223372036854775808<=V[k+1]!)(hT:WV wB X<wB*WV wB V) :
 ∃q R,rj X V q R/\∃wr,(∀z∈wr,z=bu)/\bm M 291 [.sl bu P.length (k+3) 1 cu,.sl bv 0 (k+2) 1 cv] (dN hp bu e P S X) ⟨.uV q,dN hp bu e P S R,wr⟩:=by
 have K:=jR.of hX hV oX oV hv hT;have h1:=K.h1;have w1:=K.w1;have h2:=K.h2;have key:=wH.II (M:=M) (f:=291) (ars:=[.sl bu P.length (k+3) 1 cu,.sl bv 0 (k+2) 1 cv]) (h:=dN hp bu e P S X) (K:=fun hr=>∃q R,rj X V q R/\∃wr,(∀z∈wr,z=bu)/\hr=⟨.uV q,dN hp bu e P S R,wr⟩) (by rw[C.ft];exact VF) ax (by
  refine W.mono (Q:=fun x s=>(x = .normal\/x = .ret)/\s.s.cI=[]/\∃vs,dK s.s [.var (.p 2)]=some vs/\∃q R,rj X V q R/\s.s.hp=dN hp bu e P S R/\(∀z∈s.wr,z=bu)/\bk vs = .uV q) ?_ (fun x s ⟨g1,g2,vs,g3,q,R,g4,g5,g6,g7⟩=>⟨g1,s,by rw[g2];rfl,vs,g3,q,R,g4,s.wr.filter (· < (dN hp bu e P S X).length),fun z hz=>g6 z (List.mem_filter.1 hz).1,by rw[Wy (by rw[g5,JW,JW]),g5,g7]⟩);unfold JA;simp only[enter];by_cases h:V[k+1]! <= X[k+2]!
  . have I:=iU.Wr K h;have q310:=fun h=>C.nF X[k+1]! V[k+1]! 0 h h1.1 ac ao ao
    have e1:(X[k+1]! + V[k+1]! + 0)%18446744073709551616+18446744073709551616*((X[k+1]! + V[k+1]! + 0)/18446744073709551616)=X[k+1]! + V[k+1]! := by omega
    rw[←e1]at I;repeat' first|(apply aiJ (i:=k+2);rfl;exact hl;omega;omega)|(apply aiJ (i:=k+1);rfl;exact hl;omega;omega)|(apply aiO (i:=k+1);rfl;exact hb;exact hne;omega;omega)|(apply ahR;rfl;rfl;(first|(simp only[nca];rfl)|rfl);first|exact q310 _)|apply abx|apply aa|apply abr|apply aaL|apply aef|(apply ahZ;rfl)|apply afU|apply agy|(apply ahl;rfl)|(apply ahb;rfl;rfl;(first|(simp only[nca];rfl)|rfl))|(apply acO;rfl)|(apply ahS;rfl;rfl)|(apply afS;rfl;rfl;omega)|(apply aic;rfl;rfl;omega)|(apply abA;rfl;rfl)|(apply abC;rfl;rfl)|(intro _;omega)|intro _
    all_goals try omega
    refine JY C.tonH hl hne hb lk hX hV K _ _ _ _ _ _ _ _ _ _ _ _ _ _ (fun q rh ov a7 a8 lo g1 g2 g3=>?_) _ _ _ _ _ _ I ac ac;repeat' first|(exact JZ C.tonH hl hne hb lk hX oX hV oV q g1 g2 g3 _ _ _ _ _ _ _ _ _ _ _ _ _ _ _ _ _ _)|apply aa|apply bJ
  . have I:=iU.Ws K ac;have q287:=fun h=>C.DK X[k+2]! X[k+1]! V[k+1]! h ac ac h1
    have r0:=i7 (X[k+2]! * 18446744073709551616+X[k+1]!) (show V[k+1]! ≠ 0 by omega);have r1:=g9 (X[k+2]! * 18446744073709551616+X[k+1]!) (show 0<V[k+1]! by omega);rw[←d8 ((X[k+2]! * 18446744073709551616+X[k+1]!)%V[k+1]!),←c6 18446744073709551616]at I;repeat' first|(apply aiJ (i:=k+2);rfl;exact hl;omega;omega)|(apply aiJ (i:=k+1);rfl;exact hl;omega;omega)|(apply aiO (i:=k+1);rfl;exact hb;exact hne;omega;omega)|(apply ahR;rfl;rfl;(first|(simp only[nca];rfl)|rfl);first|exact q287 _)|apply abx|apply aa|apply abr|apply aaL|apply aef|(apply ahZ;rfl)|apply afU|apply agy|(apply ahl;rfl)|(apply ahb;rfl;rfl;(first|(simp only[nca];rfl)|rfl))|(apply acM;rfl)|(apply ahS;rfl;rfl)|(apply afS;rfl;rfl;omega)|(apply aic;rfl;rfl;omega)|(apply abA;rfl;rfl)|(apply abC;rfl;rfl)|(intro _;omega)|intro _
    all_goals try omega
    refine JY C.tonH hl hne hb lk hX hV K _ _ _ _ _ _ _ _ _ _ _ _ _ _ (fun q rh ov a7 a8 lo g1 g2 g3=>?_) _ _ _ _ _ _ I ⟨r0,ac⟩ ao;repeat' first|(exact JZ C.tonH hl hne hb lk hX oX hV oV q g1 g2 g3 _ _ _ _ _ _ _ _ _ _ _ _ _ _ _ _ _ _)|apply aa|apply bJ
  )
 obtain⟨r,h1,q,R,h2,wr,h3,rfl⟩:=key;exact⟨q,R,h2,wr,h3,h1⟩
theorem ajK {t n b:Nat}{k k':IntKind}{x y z:aZ}{l:List bz}{pe:List AV}{lo:List (Nat×AV)}{hp:ab}{df wr:List Nat}{i j:Int}{Q:au->Prop}(i' r:Nat)(hx:(St.mk pe lo hp df).ae x=some (.sl b 0 n 1 (some n)))(hy:(St.mk pe lo hp df).ae y=some (.int k i))(hz:(St.mk pe lo hp df).ae z=some (.int k' j))
 (hi:i=i') (hj:j=i'+r) (hr:0<r) (hn:i'+r<=n)
 (h:WO M l ⟨⟨pe,(t,.sl b i' r 1 (some (n-i')))::lo,hp,df⟩,wr⟩ Q):WO M (⟨.l t,.slice .sl 1 x (some y) (some z) none,none⟩::l) ⟨⟨pe,lo,hp,df⟩,wr⟩ Q:=by
 subst hi;have ej:j=((i'+r:Nat):Int):=by omega
 subst ej;refine abA (v:=.sl b i' r 1 (some (n-i'))) ?_ rfl h;have h1:(0:Int)<=((i'+r:Nat):Int)/\((i'+r:Nat):Int)<=(n:Int):=by omega
 have h2:(0:Int)<=(i':Int)/\(i':Int)<=((i'+r:Nat):Int):=by omega
 simp only[bF,hx,St.fg,hy,hz,m7,kD,cH,kw,kO,nk,if_true,Option.getD_some,if_pos h1,f9,if_pos h2,Nat.mul_one,Nat.zero_add];rw[if_pos ac,show i'+r-i'=r by omega]
structure DL (M:ay):Prop extends DJ M where
 tq:∀ars h,M.ext 290 ars h=none
 xu:∀ars h,M.ext 291 ars h=none
variable {j:Nat} {U:List Int}
theorem WB (C:DL M)(hU:hp.at bu=some (.cells (aq U) e))(hne:bu≠bv)(hb:hp.at bv=some (.cells (aq (V++Y)) e'))(lk:k<10000000)(hj:j+(k+3)<=U.length)(oU:okW wB U)(hV:V.length=k+2)(oV:okW wB V)(hv:9223372036854775808<=V[k+1]!)(hup:WV wB (U.drop (j+1))<WV wB V) :
 ∃q U',(0<=q/\q<18446744073709551616)/\U'.length=U.length/\okW wB U'/\WV wB U'=WV wB U-wB^j*(q*WV wB V)/\WV wB (U'.drop j)<WV wB V/\∃wr,(∀z∈wr,z=bu)/\CT M (.fn (.func 291) [] []) [.sl bu j (k+3) 1 cu,.sl bv 0 (k+2) 1 cv] hp ⟨.uV q,hp.put bu (some (.cells (aq U') e)),wr⟩:=by
 obtain⟨P,hP⟩:∃P,P=U.take j:=⟨_,rfl⟩;obtain⟨X,hX⟩:∃X,X=(U.drop j).take (k+3):=⟨_,rfl⟩;obtain⟨S,hS⟩:∃S,S=U.drop (j+(k+3)):=⟨_,rfl⟩;have eU:U=P++X++S:=by
  rw[hP,hX,hS,du,←m9,f6,f6]
 have lP:P.length=j:=by rw[hP,ce];omega
 have lX:X.length=k+3:=by rw[hX,ce,m5];omega
 have oX:okW wB X:=by rw[hX];exact eC (jO oU _) _
 have oS:okW wB S:=by rw[hS];exact jO oU _
 have oP:okW wB P:=by rw[hP];exact eC oU _
 have eD:U.drop j=X++S:=by rw[eU,←lP,du,ne]
 have hl:bu<hp.length:=gS hU;have gj:=cL oU (i:=j) ac;have d1:=po (b:=wB) (l:=U) (i:=j) ac;have lt:=dU (b:=wB) ao oV;rw[hV]at lt;have hpow:(0:Int)<wB^(k+2):=cP ao;have hS0:WV wB S=0:=by
  have h1:WV wB (U.drop (j+1))=WV wB ((U.drop (j+1)).take (k+2))+wB^(k+2)*WV wB S:=by
   have:=mG (b:=wB) (l:=U.drop (j+1)) (i:=k+2) (by rw[m5];omega);rwa [m9,show j+1+(k+2)=j+(k+3) by omega,←hS]at this
  have h2:=cX (b:=wB) ao (eC (jO oU (j+1)) (k+2));have h3:=cX (b:=wB) ao oS;rcases dg 0 (WV wB S) with h|h
  . have:=br (show 1<=WV wB S by omega) (b9 hpow);omega
  . omega
 have hXD:WV wB X=WV wB (U.drop j):=by rw[eD,gE,hS0,c6,d8]
 have hT:WV wB X<wB*WV wB V:=by
  rw[hXD,d1];have gj:0<=U[j]! /\ U[j]! < 18446744073709551616:=gj;show _+18446744073709551616*_<18446744073709551616*_;omega
 obtain⟨q,R,⟨hq,lR,oR,vR,tR⟩,wr,hw,hrun⟩:=Wz (cu:=cu) (cv:=cv) (P:=P) (S:=S) (e:=e) C.toDJ hl hne hb lk lX oX hV oV hv hT;refine⟨q,P++R++S,hq,?_,ki (ki oP oR) oS,?_,?_,wr,hw,?_⟩
 . rw[eU];simp[lR]
 . rw[eU,du,gE,gE,du,gE,gE,vR,lR,lP,cZ,cZ,ii];omega
 . rw[←lP,du,ne,gE,hS0,c6,d8];exact tR
 . rw[lP]at hrun;have e1:dN hp bu e P S X=hp:=by unfold dN;rw[←eU];exact BL hU
   rw[e1]at hrun;exact CT.run (fi:=[]) (ca:=[]) (C.xu _ _) hrun
variable {cap c1 c2:Option Nat}
def dR (x:AV)(l:List Int):Prop:=x = .vs (aq l) l.length none\/(x = .ah/\l=[])
def lQ (v:AV)(hh:ab)(q r:List Int):Prop:=∃v1 x y,fS hh v v1/\v1.top=0/\bS v1 = .aw [x,y]/\dR x q/\dR y r
theorem mJ (l:List Int):dh (aq l)=aq l:=BU (fun _=>rfl) l
theorem Ka {b:Nat}{L:List Int}{e:TypeId}{hp:ab}{n:Nat}(hb:hp.at b=some (.cells (aq L) e))(hn:n<=L.length)(hh:ab)(he:(bY b (bh (L.take n)) cap).top≠0->hh=hp) :
 ∃v1,fS hh (bY b (bh (L.take n)) cap) v1/\v1.top=0/\bS v1 = .vs (aq (L.take (bh (L.take n)))) (L.take (bh (L.take n))).length none:=by
 have hle:=js (l:=L.take n);rw[ce]at hle;obtain⟨k,hk⟩:∃k,k=bh (L.take n):=⟨_,rfl⟩;rw[←hk]at hle he ⊢;by_cases h0:0<k
 . have e1:bY b k cap = .sl b 0 k 1 cap:=if_pos h0;rw[e1]at he ⊢;obtain rfl:=he (by simp[AV.top]);have hl:(L.take k).length=k:=by rw[ce];omega
   have hF:fS hh (.sl b 0 k 1 cap) (.vs (aq (L.take k)) k none):=by
    refine .sl (m:=aq (L.take k)) hb ?_ rfl (fun i x y hx hy=>?_)
    . have:=mE (f:=uC) (esz:=1) (fun _=>rfl) (l:=L) (i:=0) (n:=k) ac;simpa using this
    . rw[hx]at hy;cases hy;exact .same (dj (iT _) hx)
   rw[hl];exact⟨_,hF,iT _,by rw[bS,mJ]⟩
 . obtain rfl:k=0:=by omega
   exact⟨.vs [] 0 cap,.same rfl,rfl,rfl⟩
theorem lQ.trim {d1 d2:Option Nat}{b1 b2:Nat}{L1 L2:List Int}{e1 e2:TypeId}{hp:ab}{n1 n2:Nat}(h1:hp.at b1=some (.cells (aq L1) e1))(hn1:n1<=L1.length)(h2:hp.at b2=some (.cells (aq L2) e2))(hn2:n2<=L2.length) :
 lQ (bk [bY b1 (bh (L1.take n1)) d1,bY b2 (bh (L2.take n2)) d2]) (if (bk [bY b1 (bh (L1.take n1)) d1,bY b2 (bh (L2.take n2)) d2]).top<=0 then [] else hp) (L1.take (bh (L1.take n1))) (L2.take (bh (L2.take n2))):=by
 obtain⟨x,hx⟩:∃x,x=bY b1 (bh (L1.take n1)) d1:=⟨_,rfl⟩;obtain⟨y,hy⟩:∃y,y=bY b2 (bh (L2.take n2)) d2:=⟨_,rfl⟩;obtain⟨hh,hhh⟩:∃hh,hh=(if (bk [x,y]).top<=0 then [] else hp):=⟨_,rfl⟩;have et:(bk [x,y]).top=max x.top (max y.top 0):=rfl;obtain⟨v1,f1,t1,k1⟩:=Ka (cap:=d1) h1 hn1 hh (fun h=>by rw[hhh,if_neg];rw[←hx]at h;omega);obtain⟨v2,f2,t2,k2⟩:=Ka (cap:=d2) h2 hn2 hh (fun h=>by rw[hhh,if_neg];rw[←hy]at h;omega);rw[←hx,←hy,←hhh];rw[←hx]at f1;rw[←hy]at f2;refine⟨.aw [v1,v2],_,_,.aw rfl (fun i a b ha hb=>?_),?_,?_,.inl rfl,.inl rfl⟩
 . match i with
   | 0=>cases ha;cases hb;exact f1
   | 1=>cases ha;cases hb;exact f2
   | i+2=>cases ha
 . simp[AV.top,bO,t1,t2]
 . simp only[bS,dh,k1,k2]
theorem lQ.less {hh:ab}{l:List Int}:lQ (bk [.ah,.vs (aq l) l.length cap]) hh [] l:=by
 have ht:(bk [.ah,.vs (aq l) l.length cap]).top=0:=by simp[bk,AV.top,bO,iT l]
 refine⟨bk [.ah,.vs (aq l) l.length cap],.ah,.vs (aq l) l.length none,.same ht,ht,?_,.inr ⟨rfl,rfl⟩,.inl rfl⟩;simp only[bk,bS,dh,mJ l]
def tr (M:ay)(g:Nat)(ars:List AV)(x y:Int):Prop:=∃q r:List Int,(okW wB q/\bg q/\WV wB q=x/y)/\(okW wB r/\bg r/\WV wB r=x%y)/\∃v hh,lQ v hh q r/\bm M g ars [] ⟨v,hh,[]⟩
theorem Kb {f N:Nat}{aY:List Nat}{res:List fO}{body:al}{ars:List AV}{x y:Int}(hft:M.FT f=some ⟨N,aY,res,body⟩)(hN:ars.length<=N)
 (h:W M body ⟨⟨aY.map (fun t=>(ars[t]?).getD cM),[],[],[]⟩,[]⟩ fun e s=>(e = .normal\/e = .ret)/\s.s.cI=[]/\∃vs,dK s.s res=some vs/\∃q r:List Int,(okW wB q/\bg q/\WV wB q=x/y)/\(okW wB r/\bg r/\WV wB r=x%y)/\lQ (bk vs) (if (bk vs).top<=0 then [] else s.s.hp) q r):tr M f ars x y:=by
 obtain⟨v,hh,⟨q,r,hq,hr,ho⟩,h2⟩:=iR (P:=fun v hh=>∃q r:List Int,(okW wB q/\bg q/\WV wB q=x/y)/\(okW wB r/\bg r/\WV wB r=x%y)/\lQ v hh q r) hft hN h;exact⟨q,r,hq,hr,v,hh,ho,h2⟩
structure Kc (M:ay):Prop extends DL M where
 tu:∀(a b:List Int) c1 c2 h,okW wB a->okW wB b->bg a->bg b->a.length<1000000000->b.length<1000000000->M.ext 286 [.vs (aq a) a.length c1,.vs (aq b) b.length c2] h=some ⟨.iV (bE (WV wB a-WV wB b)),h,[]⟩
 tk:∀(y:Int) h,(0<=y/\y<18446744073709551616)->M.ext 289 [.uV y] h=some ⟨.iV (64-fj y:Nat),h,[]⟩
theorem pz {x y q r:Int}(h:x=y*q+r)(h0:0<=r)(h1:r<y):q=x/y/\r=x%y:=by
 subst h;refine⟨?_,?_⟩
 . rw[li,j2 _ _ ac,fY h0 h1,le]
 . rw[li,Int.add_mul_emod_self_left,l9 h0 h1]
theorem WE (C:DJ M)(a b:List Int)(oa:okW wB a)(ob:okW wB b)(la:a.length<10000000)(lb:b.length=1)(hb0:0<b[0]!){Q:Ex->au->Prop}(a2 a3 a7 a8 a9 aA aB aC aD aE aF:AV)(lo:List (Nat×AV))
 (hQ:∀L (re:Int) lo wr,L.length=a.length->okW wB L->(0<=re/\re<b[0]!)->WV wB a=b[0]! * WV wB L+re ->
   Q (.exit 0) ⟨⟨[.vs (aq a) a.length c1,.vs (aq b) b.length c2,a2,a3,.sl 0 0 a.length 1 (some a.length),.uV re,.iV (-1),a7,a8,a9,aA,aB,aC,aD,aE,aF],lo,[some (.cells (aq L) 274)],[]⟩,wr⟩) :
 W M (.loop wU) ⟨⟨[.vs (aq a) a.length c1,.vs (aq b) b.length c2,a2,a3,.sl 0 0 a.length 1 (some a.length),.uV 0,.iV ((a.length:Int)-1),a7,a8,a9,aA,aB,aC,aD,aE,aF],lo,[some (.cells (aq (c9 a.length 0)) 274)],[]⟩,[]⟩ Q:=by
 refine W.ir (fun t s=>∃L re iv lo wr,s=⟨⟨[.vs (aq a) a.length c1,.vs (aq b) b.length c2,a2,a3,.sl 0 0 a.length 1 (some a.length),.uV re,.iV iv,a7,a8,a9,aA,aB,aC,aD,aE,aF],lo,[some (.cells (aq L) 274)],[]⟩,wr⟩ /\
  iv=(t:Int)-1/\t<=a.length/\L.length=a.length/\okW wB L/\(0<=re/\re<b[0]!)/\(∀k,k<t->L[k]! = 0)/\WV wB a=b[0]! * WV wB L+wB^t*re+WV wB (a.take t)) (fun t s ⟨L,re,iv,lo,wr,hs,hiv,ht,hL,oL,hre,hz,hv⟩=>?_) (m:=a.length)
  ⟨_,_,_,_,_,rfl,rfl,bA _,ax,lJ ao,⟨ao,hb0⟩,fun k _=>lO,by rw[lK,d7];simp⟩
 subst hs;cases t with
 | zero=>
  obtain rfl:iv = -1:=by omega
  unfold wU;repeat' first|apply abx|apply aa|apply abr|apply aaL|apply aeM|apply bH|apply ck|(apply acM;rfl)|(apply ahS;rfl;rfl)|(apply abA;rfl;rfl)|(intro _;omega)|intro _
  all_goals try omega
  exact hQ L re _ _ hL oL hre (by rw[hv];simp[WV])
 | succ i=>
  obtain rfl:iv=(i:Int):=by omega
  have gx:=cL oa (i:=i) ac;obtain⟨x,hx⟩:∃x,x=a[((i:Int)).toNat]! := ⟨_,rfl⟩;rw[show a[i]! = x from hx.symm]at gx;have gx:0<=x/\x<18446744073709551616:=gx;have gy:=cL ob (i:=0) ac;obtain⟨y,hy⟩:∃y,y=b[(0:Int).toNat]! := ⟨_,rfl⟩;rw[show b[0]! = y from hy.symm]at gy hre hb0 hv hQ;have gy:0<=y/\y<18446744073709551616:=gy;have q287:=fun h=>C.DK re x y h ⟨hb0,gy.2⟩ hre gx
  have e1:=f7 (re*18446744073709551616+x) y;have r0:=i7 (re*18446744073709551616+x) (show y≠0 by omega);have r1:=g9 (re*18446744073709551616+x) hb0;have d0:0<=(re*18446744073709551616+x)/y:=eA ac ac;have d1:(re*18446744073709551616+x)/y<18446744073709551616:=c7 ac ac;obtain⟨d,hd⟩:∃d,d=(re*18446744073709551616+x)/y:=⟨_,rfl⟩;obtain⟨r,hr⟩:∃r,r=(re*18446744073709551616+x)%y:=⟨_,rfl⟩;rw[←hd,←hr]at q287 e1;rw[←hd]at d0 d1;rw[←hr]at r0 r1;have eI:0+((i:Int)).toNat*1=i:=by omega
  have next:∀lo wr,LI (fun s=>∃m',m'<i+1/\∃L re iv lo wr,s=⟨⟨[.vs (aq a) a.length c1,.vs (aq b) b.length c2,a2,a3,.sl 0 0 a.length 1 (some a.length),.uV re,.iV iv,a7,a8,a9,aA,aB,aC,aD,aE,aF],lo,[some (.cells (aq L) 274)],[]⟩,wr⟩ /\
   iv=(m':Int)-1/\m'<=a.length/\L.length=a.length/\okW wB L/\(0<=re/\re<b[0]!)/\(∀k,k<m'->L[k]! = 0)/\WV wB a=b[0]! * WV wB L+wB^m'*re+WV wB (a.take m')) Q .normal ⟨⟨[.vs (aq a) a.length c1,.vs (aq b) b.length c2,a2,a3,.sl 0 0 a.length 1 (some a.length),.uV r,.iV ((i:Int)-1),a7,a8,a9,aA,aB,aC,aD,aE,aF],lo,[some (.cells (aq (L.set i d)) 274)],[]⟩,wr⟩:=fun lo wr=>
   dQ ⟨i,m6 i,_,_,_,lo,wr,rfl,rfl,ac,by rw[be];exact hL,hJ oL ⟨d0,d1⟩,⟨r0,by rw[show b[0]! = y from hy.symm];exact r1⟩,fun k hk=>by rw[iJ ac];exact hz k ac,by
    rw[show b[0]! = y from hy.symm,hv,hZ ac,hz i ac,fT ac,show a[i]! = x from hx.symm,cT,gD];have e2:wB^i*wB*re+wB^i*x=wB^i*(y*d+r):=by rw[e1];show wB^i*18446744073709551616*re+_=_;grind
    rw[cZ]at e2 ⊢;have e3:y*(wB^i*d)=wB^i*(y*d):=by grind
    rw[e3];omega⟩
  rw[hx,hy]at q287;unfold wU;repeat' first|(apply ahR;rfl;rfl;(first|(simp only[nca];rfl)|rfl);first|exact q287 _)|(apply aiF;exact congrArg (fun z=>some (AV.ptr 0 z)) eI;rfl;rfl;omega)|apply abx|apply aa|apply abr|apply aaL|apply aef|apply adA|apply bC|apply afU|apply agy|(apply ahl;rfl)|(apply ahb;rfl;rfl;(first|(simp only[nca];rfl)|rfl))|(apply ahY;rfl;(first|(simp only[nca];rfl)|rfl);(first|(simp only[nca];rfl)|rfl))|(apply acO;rfl)|(apply ahS;rfl;rfl)|(apply afS;rfl;rfl;omega)|(apply ahT;rfl;rfl;omega)|(apply aic;rfl;rfl;omega)|(apply aib;rfl;exact fun _=>rfl;(first|omega|(simp only[be];omega)|(simp;omega));decide;rfl;case ia=>infer_instance)|(apply abA;rfl;rfl)|(apply abC;rfl;rfl)|(intro _;omega)|intro _
  all_goals try omega
  exact next _ _
theorem aiS {t b m:Nat}{x:aZ}{l:List bz}{pe:List AV}{lo:List (Nat×AV)}{hp:ab}{df wr:List Nat}{L:List Int}{e:TypeId}{v:Int}{Q:au->Prop}(hx:(St.mk pe lo hp df).ae x=some (.ptr b m))(hb:hp.at b=some (.cells (aq L) e))(hi:m<L.length)(hv:L[m]! = v)
 (h:WO M l ⟨⟨pe,(t,.uV v)::lo,hp,df⟩,wr⟩ Q):WO M (⟨.l t,.load 1 false x,none⟩::l) ⟨⟨pe,lo,hp,df⟩,wr⟩ Q:=by
 subst hv;exact aiM hx hb hi h
theorem WG (C:DL M){k N:Nat}{V Y U0:List Int}(lN:N<10000000)(hN:k+3<=N)(hV:V.length=k+2)(oV:okW wB V)(hv:9223372036854775808<=V[k+1]!)(hU0:U0.length=N)(oU0:okW wB U0)(hup:WV wB (U0.drop (N-(k+2)))<WV wB V){Q:Ex->au->Prop}(a0 a1 a2 a3 a4 a5 a6 a7 aD aE aF:AV)(lo:List (Nat×AV))(wr:List Nat)
 (hQ:∀U L lo wr,U.length=N->okW wB U->L.length=N-(k+2)->okW wB L->WV wB U0=WV wB V*WV wB L+WV wB U->WV wB U<WV wB V ->
   Q (.exit 2) ⟨⟨[a0,a1,a2,a3,a4,a5,a6,a7,.sl 0 0 (k+2) 1 cv,.sl 1 0 N 1 (some N),.iV ((k+2:Nat):Int),.sl 2 0 (N-(k+2)) 1 cap,.iV (-1),aD,aE,aF],lo,[some (.cells (aq (V++Y)) 274),some (.cells (aq U) 274),some (.cells (aq L) 274)],[]⟩,wr⟩)
 (j:Int) (hj:j=(N:Int)-(k+3)) :
 W M (.loop wV) ⟨⟨[a0,a1,a2,a3,a4,a5,a6,a7,.sl 0 0 (k+2) 1 cv,.sl 1 0 N 1 (some N),.iV ((k+2:Nat):Int),.sl 2 0 (N-(k+2)) 1 cap,.iV j,aD,aE,aF],lo,[some (.cells (aq (V++Y)) 274),some (.cells (aq U0) 274),some (.cells (aq (c9 (N-(k+2)) 0)) 274)],[]⟩,wr⟩ Q:=by
 refine W.ir (fun t s=>∃U L iv lo wr,s=⟨⟨[a0,a1,a2,a3,a4,a5,a6,a7,.sl 0 0 (k+2) 1 cv,.sl 1 0 N 1 (some N),.iV ((k+2:Nat):Int),.sl 2 0 (N-(k+2)) 1 cap,.iV iv,aD,aE,aF],lo,[some (.cells (aq (V++Y)) 274),some (.cells (aq U) 274),some (.cells (aq L) 274)],[]⟩,wr⟩ /\
  iv=(t:Int)-1/\t<=N-(k+2)/\U.length=N/\okW wB U/\L.length=N-(k+2)/\okW wB L/\(∀k,k<t->L[k]! = 0)/\WV wB U0=WV wB V*WV wB L+WV wB U/\WV wB (U.drop t)<WV wB V) (fun t s ⟨U,L,iv,lo,wr,hs,hiv,ht,hU,oU,hL,oL,hz,hv1,hv2⟩=>?_) (m:=N-(k+2))
  ⟨_,_,_,_,_,rfl,ac,bA _,hU0,oU0,ax,lJ ao,fun k _=>lO,by rw[lK,c6,le],hup⟩
 subst hs;cases t with
 | zero=>
  obtain rfl:iv = -1:=by omega
  unfold wV;repeat' first|apply abx|apply aa|apply abr|apply aaL|apply aeM|apply bH|apply ck|(apply acM;rfl)|(apply ahS;rfl;rfl)|(apply abA;rfl;rfl)|(intro _;omega)|intro _
  all_goals try omega
  exact hQ U L _ _ hU oU hL oL hv1 hv2
 | succ i=>
  obtain rfl:iv=(i:Int):=by omega
  obtain⟨q,U',hq,lU,oU',vU,tU,w,hw,hct⟩:=WB (cu:=some (N-i)) (cv:=cv) (bu:=1) (bv:=0) (e:=274) (e':=274) (hp:=[some (.cells (aq (V++Y)) 274),some (.cells (aq U) 274),some (.cells (aq L) 274)]) (U:=U) (V:=V) (Y:=Y) (j:=i) C rfl ao rfl (show k<10000000 by omega) ac oU hV oV hv hv2;have hct:CT M (.fn (.func 291) [] []) [.sl 1 i (k+3) 1 (some (N-i)),.sl 0 0 (k+2) 1 cv] [some (.cells (aq (V++Y)) 274),some (.cells (aq U) 274),some (.cells (aq L) 274)] ⟨.uV q,[some (.cells (aq (V++Y)) 274),some (.cells (aq U') 274),some (.cells (aq L) 274)],w⟩:=hct;have eI:0+((i:Int)).toNat*1=i:=by omega
  have next:∀lo wr,LI (fun s=>∃m',m'<i+1/\∃U L iv lo wr,s=⟨⟨[a0,a1,a2,a3,a4,a5,a6,a7,.sl 0 0 (k+2) 1 cv,.sl 1 0 N 1 (some N),.iV ((k+2:Nat):Int),.sl 2 0 (N-(k+2)) 1 cap,.iV iv,aD,aE,aF],lo,[some (.cells (aq (V++Y)) 274),some (.cells (aq U) 274),some (.cells (aq L) 274)],[]⟩,wr⟩ /\
   iv=(m':Int)-1/\m'<=N-(k+2)/\U.length=N/\okW wB U/\L.length=N-(k+2)/\okW wB L/\(∀k,k<m'->L[k]! = 0)/\WV wB U0=WV wB V*WV wB L+WV wB U/\WV wB (U.drop m')<WV wB V) Q .normal ⟨⟨[a0,a1,a2,a3,a4,a5,a6,a7,.sl 0 0 (k+2) 1 cv,.sl 1 0 N 1 (some N),.iV ((k+2:Nat):Int),.sl 2 0 (N-(k+2)) 1 cap,.iV ((i:Int)-1),aD,aE,aF],lo,[some (.cells (aq (V++Y)) 274),some (.cells (aq U') 274),some (.cells (aq (L.set i q)) 274)],[]⟩,wr⟩:=fun lo wr=>
   dQ ⟨i,m6 i,_,_,_,lo,wr,rfl,rfl,ac,ac,oU',by rw[be];exact hL,hJ oL hq,fun k hk=>by rw[iJ ac];exact hz k ac,by
    rw[hZ ac,hz i ac,gD,vU,hv1,cZ];have e3:WV wB V*(wB^i*q)=wB^i*(q*WV wB V):=by rw[←cC,cD (WV wB V),cC,cD (WV wB V)]
    rw[e3];omega,tU⟩
  unfold wV;repeat' first|(apply ajK i (k+3);rfl;rfl;rfl;rfl;omega;omega;omega)|(apply ahW;rfl;rfl;first|exact hct)|(apply aiF;exact congrArg (fun z=>some (AV.ptr 2 z)) eI;rfl;rfl;omega)|apply abx|apply aa|apply abr|apply aaL|apply aef|apply adA|apply bC|(apply acO;rfl)|(apply ahS;rfl;rfl)|(apply aeX;rfl;rfl;omega)|(apply afS;rfl;rfl;omega)|(apply aic;rfl;rfl;omega)|(apply abA;rfl;rfl)|(apply abC;rfl;rfl)|(intro _;omega)|intro _
  all_goals try omega
  exact next _ _
theorem WH {x z:Int}{s:Nat}(hx:0<=x/\x<18446744073709551616)(hs:s<=63) :
 (0<=x/2^s/\x/2^s<2^(64-s))/\(0<=z*2^(64-s)%18446744073709551616/\z*2^(64-s)%18446744073709551616<18446744073709551616)/\z*2^(64-s)%18446744073709551616%2^(64-s)=0 /\
   (0<=x/2^s+z*2^(64-s)%18446744073709551616/\x/2^s+z*2^(64-s)%18446744073709551616<18446744073709551616) /\
   2^s*(x/2^s+z*2^(64-s)%18446744073709551616)=x-x%2^s+18446744073709551616*(z%2^s):=by
 have hp2:=cP (n:=2) (m:=s) ao;have hps:=xq (s:=s) ac;have hp3:=cP (n:=2) (m:=64-s) ao;have e1:z*2^(64-s)%18446744073709551616=z%2^s*2^(64-s):=by
  rw[←hps,cD z,cD (2^s),Int.mul_emod_mul_of_pos _ _ hp3,cD]
 have h1:0<=x/2^s:=eA hx.1 ac;have h2:x/2^s<2^(64-s):=c7 hp2 (by rw[cD,hps];exact hx.2);have h3:=i7 z (show (2:Int)^s≠0 by omega);have h4:=g9 z hp2;have h5:=f7 x (2^s);have h6:2^s*(z%2^s*2^(64-s))=18446744073709551616*(z%2^s):=by
  rw[cD (z%2^s),←cC,hps]
 have h7:0<=z%2^s*2^(64-s):=dc h3 ac;have h8:(z%2^s+1)*2^(64-s)<=18446744073709551616:=by
  rw[←hps];exact bZ ac ac
 rw[dz,fo]at h8;have hm:0<=z*2^(64-s)%18446744073709551616/\z*2^(64-s)%18446744073709551616<18446744073709551616:=by omega
 refine⟨⟨h1,h2⟩,hm,by rw[e1];exact jj _ _,?_,?_⟩
 . rw[e1];omega
 . rw[e1,cZ,h6];omega
theorem WI {k N s:Nat}{U:List Int}{B0 B2:Option bV}(hs:s<=63)(lN:N<10000000)(hN:k+3<=N)(hU:U.length=N)(oU:okW wB U){Q:Ex->au->Prop}(a0 a1 a2 a3 a4 a5 a6 a8 aB aC aD:AV)(lo:List (Nat×AV))(wr:List Nat)
 (hQ:∀D aD lo wr,D.length=N->okW wB D->(2:Int)^s*WV wB (D.take (k+2))=WV wB (U.take (k+2))-U[0]! % 2^s+wB^(k+2)*(U[k+2]! % 2^s) ->
   Q (.exit 4) ⟨⟨[a0,a1,a2,a3,a4,a5,a6,.iV s,a8,.sl 1 0 N 1 (some N),.iV ((k+2:Nat):Int),aB,aC,aD,.iV ((k+2:Nat):Int),.iV ((k+2:Nat):Int)],lo,[B0,some (.cells (aq D) 274),B2],[]⟩,wr⟩) :
 W M (.loop wW) ⟨⟨[a0,a1,a2,a3,a4,a5,a6,.iV s,a8,.sl 1 0 N 1 (some N),.iV ((k+2:Nat):Int),aB,aC,aD,.iV ((k+2:Nat):Int),.iV 0],lo,[B0,some (.cells (aq U) 274),B2],[]⟩,wr⟩ Q:=by
 refine W.jf (k+2) (fun i s'=>∃D aD lo wr,s'=⟨⟨[a0,a1,a2,a3,a4,a5,a6,.iV s,a8,.sl 1 0 N 1 (some N),.iV ((k+2:Nat):Int),aB,aC,aD,.iV ((k+2:Nat):Int),.iV i],lo,[B0,some (.cells (aq D) 274),B2],[]⟩,wr⟩ /\
  D.length=N/\okW wB D/\(∀k,i<=k->D[k]! = U[k]!)/\(2:Int)^s*WV wB (D.take i)=WV wB (U.take i)-U[0]! % 2^s+wB^i*(U[i]! % 2^s)) (fun i s' hi ⟨D,aD,lo,wr,hs',hD,oD,hk,hv⟩=>?_) (fun s' ⟨D,aD,lo,wr,hs',hD,oD,hk,hv⟩=>?_) (gc _)
  ⟨_,_,_,_,rfl,hU,oU,fun k _=>rfl,by simp[WV];omega⟩
 . subst hs';have gx:=cL oU (i:=i) ac;obtain⟨x,hx⟩:∃x,x=U[i]! := ⟨_,rfl⟩;rw[←hx]at gx;have gx:0<=x/\x<18446744073709551616:=gx;have gz:=cL oU (i:=i+1) ac;obtain⟨z,hz⟩:∃z,z=U[i+1]! := ⟨_,rfl⟩;rw[←hz]at gz;have gz:0<=z/\z<18446744073709551616:=gz;obtain⟨w1,w2,w3,w4,w5⟩:=WH (z:=z) gx hs;have f0:D[i]! = x:=by rw[hk i (bA _),hx]
   have f1:(D.set i (x/2^s))[i]! = x/2^s:=xh ac;have f2:(D.set i (x/2^s))[i+1]! = z:=by rw[iJ ac,hk (i+1) ac,hz]
   have eI:0+((i:Int)).toNat*1=i:=by omega
   have eJ:0+((i:Int)+1).toNat*1=i+1:=by omega
   have fin:∀D' d,D'=D.set i d->d=x/2^s+z*2^(64-s)%18446744073709551616->D'.length=N/\okW wB D'/\(∀k,i+1<=k->D'[k]! = U[k]!)/\(2:Int)^s*WV wB (D'.take (i+1))=WV wB (U.take (i+1))-U[0]! % 2^s+wB^(i+1)*(U[i+1]! % 2^s):=fun D' d e ed=>by
    subst e;refine⟨by rw[be];exact hD,hJ oD (by rw[ed];exact w4),fun k hk'=>by rw[iJ ac];exact hk k ac,?_⟩;rw[fT (by rw[be];omega),xh ac,List.take_set_of_le (bA i),cZ,hv,fT ac,←hx,←hz,cT];have e1:(2:Int)^s*(wB^i*d)=wB^i*(x-x%2^s+18446744073709551616*(z%2^s)):=by rw[←w5,←ed,←cC,cD (2^s),cC]
    rw[e1,cZ,ii,←cC (wB^i) 18446744073709551616];show _=_+wB^i*18446744073709551616*_;omega
   unfold wW;by_cases h0:(0:Int)<s
   . repeat' first|(apply aiS (v:=x);exact congrArg (fun z=>some (AV.ptr 1 z)) eI;rfl;omega;exact f0)|(apply aiT (n:=s);rfl;rfl;rfl;omega)|(apply aiF;exact congrArg (fun z=>some (AV.ptr 1 z)) eI;rfl;rfl;omega)|(apply aiS (v:=x/2^s);exact congrArg (fun z=>some (AV.ptr 1 z)) eI;rfl;(rw[be];omega);exact f1)|(apply aiS (v:=z);exact congrArg (fun z=>some (AV.ptr 1 z)) eJ;rfl;(rw[be];omega);exact f2)|(apply aje (n:=64-s);rfl;rfl;omega;omega)|(apply ajl (64-s);rfl;rfl;exact w1;exact w2;omega;exact w3)|(apply aiF;exact congrArg (fun z=>some (AV.ptr 1 z)) eI;rfl;rfl;(rw[be];omega))|apply abx|apply aa|apply abr|apply aaL|apply aef|apply adA|apply bC|apply afU|apply agy|(apply ahl;rfl)|(apply ahb;rfl;rfl;(first|(simp only[nca];rfl)|rfl))|(apply ahY;rfl;(first|(simp only[nca];rfl)|rfl);(first|(simp only[nca];rfl)|rfl))|(apply acO;rfl)|(apply afg;rfl)|(apply aep;rfl;rfl)|(apply aeq;rfl;rfl)|(apply aeB;rfl;rfl)|(apply aeX;rfl;rfl;omega)|(apply afS;rfl;rfl;omega)|(apply aic;rfl;rfl;omega)|(apply abA;rfl;rfl)|(apply abC;rfl;rfl)|(intro _;omega)|intro _
     all_goals try omega
     obtain⟨f1,f2,f3,f4⟩:=fin _ _ (List.set_set _) rfl;exact dQ ⟨_,_,_,_,rfl,f1,f2,f3,f4⟩
   . have e0:x/2^s=x/2^s+z*2^(64-s)%18446744073709551616:=by
      have:s=0:=by omega
      subst this;have:z*2^(64-0)%18446744073709551616=0:=by
       show z*18446744073709551616%18446744073709551616=0;omega
      omega
     repeat' first|(apply aiS (v:=x);exact congrArg (fun z=>some (AV.ptr 1 z)) eI;rfl;omega;exact f0)|(apply aiT (n:=s);rfl;rfl;rfl;omega)|(apply aiF;exact congrArg (fun z=>some (AV.ptr 1 z)) eI;rfl;rfl;omega)|apply abx|apply aa|apply abr|apply aaL|apply aef|apply adA|apply bC|(apply acO;rfl)|(apply acM;rfl)|(apply ahU;rfl)|(apply aep;rfl;rfl)|(apply aeq;rfl;rfl)|(apply aeC;rfl;rfl)|(apply aeX;rfl;rfl;omega)|(apply aic;rfl;rfl;omega)|(apply abA;rfl;rfl)|(apply abC;rfl;rfl)|(intro _;omega)|intro _
     all_goals try omega
     obtain⟨f1,f2,f3,f4⟩:=fin _ _ rfl e0;exact dQ ⟨_,_,_,_,rfl,f1,f2,f3,f4⟩
 . subst hs';unfold wW;repeat' first|apply abx|apply aa|apply abr|apply aaL|apply aeM|apply bH|apply ck|(apply acM;rfl)|(apply aep;rfl;rfl)|(intro _;omega)|intro _
   all_goals try omega
   exact hQ D _ _ _ hD oD hv
theorem ajz {t n b r:Nat}{k:IntKind}{x y:aZ}{l:List bz}{pe:List AV}{lo:List (Nat×AV)}{hp:ab}{df wr:List Nat}{Q:au->Prop}(hx:(St.mk pe lo hp df).ae x=some (.sl b 0 n 1 cap))(hy:(St.mk pe lo hp df).ae y=some (.int k r))(h0:0<r)(hr:r<=n)(hc:∀c,cap=some c->n<=c)
 (h:WO M l ⟨⟨pe,(t,.sl b 0 r 1 cap)::lo,hp,df⟩,wr⟩ Q):WO M (⟨.l t,.slice .sl 1 x none (some y) none,none⟩::l) ⟨⟨pe,lo,hp,df⟩,wr⟩ Q:=
 ajj hx hy hr hc (by rw[show bY b r cap = .sl b 0 r 1 cap from if_pos h0];exact h)
theorem xw {L:List Int}{n:Nat}:L.take (bh (L.take n))=(L.take n).take (bh (L.take n)):=by
 have:=js (l:=L.take n);rw[ce]at this;rw[List.take_take,de ac]
theorem WJ {b rb:List Int}{k s:Nat}(hb:b.length=k+2)(ob:okW wB b)(nb:bg b)(hs:s=64-fj b[k+1]!)(lr:rb.length=k+3)(oR:okW wB rb)(vr:WV wB rb=WV wB b*2^s) :
 s<=63/\bh (rb.take (k+3))=k+2/\∃V Y,rb=V++Y/\V.length=k+2/\okW wB V/\WV wB V=WV wB b*2^s/\9223372036854775808<=V[k+1]! := by
 have t0:=pr nb ac;rw[hb,show k+2-1=k+1 by omega]at t0;have gt:=cL ob (i:=k+1) ac;have gt:0<=b[k+1]! /\ b[k+1]! < 18446744073709551616:=gt;obtain⟨s1,s2,s3⟩:=xn (x:=b[k+1]!) ac;have s4:=DE (x:=b[k+1]!) (n:=64) (by have:=gt.2;exact this) gt.1;have hs63:s<=63:=by omega
 have e0:=kS (b:=wB) (l:=b) (n:=k+1) ac;obtain⟨t,ht⟩:∃t,t=b[k+1]! := ⟨_,rfl⟩;rw[←ht]at t0 gt s1 s2 s3 s4 e0 hs;obtain⟨n,hn⟩:∃n,fj t=n+1:=⟨fj t-1,ac⟩;rw[hn]at s2 s3 hs;rw[show n+1-1=n by omega]at s2;have p1:(2:Int)^n*2^s=9223372036854775808:=by rw[←eL,show n+s=63 by omega];decide
 have p2:(2:Int)^(n+1)*2^s=18446744073709551616:=by rw[←eL,show n+1+s=64 by omega];decide
 have hp2:=cP (n:=2) (m:=s) ao;have m1:=bZ s2 (b9 hp2);have m2:=bZ (show t+1<=2^(n+1) by omega) (b9 hp2);rw[p1]at m1;rw[p2,dz,fo]at m2;have hP:0<wB^(k+1):=cP ao;have l0:=cX (b:=wB) ao (eC ob (k+1));have l1:=dU (b:=wB) ao (eC ob (k+1));rw[ce,de ac]at l1;have m3:wB^(k+1)*9223372036854775808<=WV wB rb:=by
  have h1:=br m1 (b9 hP);have h2:=dc l0 (b9 hp2);rw[vr,e0,dz,cC];omega
 have m4:WV wB rb<wB^(k+1)*18446744073709551616:=by
  have h1:=br m2 (b9 hP);have h2:=c5 l1 hp2;rw[cZ]at h1;rw[vr,e0,dz,cC];omega
 have e1:=kS (b:=wB) (l:=rb) (n:=k+2) ac;have e2:WV wB (rb.take (k+2))=WV wB (rb.take (k+1))+wB^(k+1)*rb[k+1]! := fT ac;have g2:=cL oR (i:=k+2) ac;have g1:=cL oR (i:=k+1) ac;have n2:=cX (b:=wB) ao (eC oR (k+2));have n1:=dU (b:=wB) ao (eC oR (k+1));rw[ce,de ac]at n1;have hPs:wB^(k+2)=wB^(k+1)*18446744073709551616:=cT _ _;have z2:rb[k+2]! = 0:=by
  rcases dg 0 rb[k+2]! with h|h
  . have:=br (show 1<=rb[k+2]! by omega) (show 0<=wB^(k+2) by rw[hPs];omega);rw[hPs]at this e1;omega
  . have:=g2.1;omega
 rw[z2,c6,d8]at e1;have z1:9223372036854775808<=rb[k+1]! := by
  have:wB^(k+1)*9223372036854775808<wB^(k+1)*(rb[k+1]! + 1):=by rw[cZ,iH];omega
  have:=d9 this (b9 hP);omega
 refine⟨hs63,?_,rb.take (k+2),rb.drop (k+2),(f6 _ _).symm,by rw[ce];omega,eC oR _,by rw[←e1,vr],?_⟩
 . rw[pq ac,if_pos z2,pq ac,if_neg ac]
 . have:(rb.take (k+2))[k+1]! = rb[k+1]! := by
    simp only[ci];rw[List.getElem?_take_of_lt ac]
   rw[this];exact z1
theorem WK {a b U:List Int}{k s:Nat}(ha:k+2<=a.length)(oa:okW wB a)(hb:b.length=k+2)(ob:okW wB b)(nb:bg b)(hU:U.length=a.length+1)(oU:okW wB U)(vU:WV wB U=WV wB a*2^s) :
 WV wB (U.drop (a.length+1-(k+2)))<WV wB b*2^s:=by
 have hp2:=cP (n:=2) (m:=s) ao;have e1:=mG (b:=wB) (l:=U) (i:=a.length+1-(k+2)) ac;have l0:=cX (b:=wB) ao (eC oU (a.length+1-(k+2)));have l1:=dU (b:=wB) ao oa;have hg:=qZ (b:=wB) ao ob nb ac;rw[hb,show k+2-1=k+1 by omega]at hg;have hP:0<wB^(a.length+1-(k+2)):=cP ao;have ep:wB^a.length=wB^(a.length+1-(k+2))*wB^(k+1):=by rw[←eL,show a.length+1-(k+2)+(k+1)=a.length by omega]
 have m1:=c5 l1 hp2;have m2:=bZ hg (b9 hp2);rw[ep,cC]at m1;have:wB^(a.length+1-(k+2))*WV wB (U.drop (a.length+1-(k+2)))<wB^(a.length+1-(k+2))*(wB^(k+1)*2^s):=by omega
 have:=d9 this (b9 hP);omega
theorem WL {U D:List Int}{k s:Nat}{r:Int}(hU:k+3<=U.length)(oU:okW wB U)(hlt:WV wB U<wB^(k+2))(hr:WV wB U=(2:Int)^s*r)(hs:s<=63)
 (h:(2:Int)^s*WV wB (D.take (k+2))=WV wB (U.take (k+2))-U[0]! % 2^s+wB^(k+2)*(U[k+2]! % 2^s)):WV wB (D.take (k+2))=r:=by
 have hp2:=cP (n:=2) (m:=s) ao;have hps:=xq (s:=s) ac;have e1:=mG (b:=wB) (l:=U) (i:=k+2) ac;have l0:=cX (b:=wB) ao (eC oU (k+2));have l1:=cX (b:=wB) ao (jO oU (k+2));have hP:0<wB^(k+2):=cP ao;have z:WV wB (U.drop (k+2))=0:=by
  rcases dg 0 (WV wB (U.drop (k+2))) with h|h
  . have:=br (show 1<=WV wB (U.drop (k+2)) by omega) (b9 hP);omega
  . omega
 rw[z,c6,d8]at e1;have z2:U[k+2]! = 0:=by
  have d:=po (b:=wB) (l:=U) (i:=k+2) ac;have g:=cL oU (i:=k+2) ac;have l2:=cX (b:=wB) ao (jO oU (k+2+1));have g:=g.1;rw[z]at d;have d:0=U[k+2]! + 18446744073709551616*WV wB (U.drop (k+2+1)):=d;omega
 have z0:U[0]! % 2^s=0:=by
  have d:=po (b:=wB) (l:=U) (i:=0) ac;rw[i8,hr]at d;refine Int.emod_eq_zero_of_dvd ⟨r-2^(64-s)*WV wB (U.drop (0+1)),?_⟩;rw[ii,←cC,hps];have d:(2:Int)^s*r=U[0]! + 18446744073709551616*WV wB (U.drop (0+1)):=d;omega
 rw[z0,z2,Int.zero_emod,c6,d8,gD,←e1,hr]at h;exact Int.eq_of_mul_eq_mul_left ac h
theorem Ke {x y q u p:Int}(hp:0<p)(h:x*p=y*p*q+u)(h0:0<=u)(h1:u<y*p):q=x/y/\u=p*(x%y):=by
 have e:u=p*(x-y*q):=by
  rw[ii,←cC,cD p x,cD p y];omega
 have r0:0<=x-y*q:=by
  rcases dg (x-y*q) 0 with h'|h'
  . have:=Int.mul_lt_mul_of_pos_left h' hp;rw[c6]at this;omega
  . exact h'
 have r1:x-y*q<y:=by
  have h2:p*(x-y*q)<p*y:=by rw[←e,cD p y];exact h1
  exact d9 h2 (b9 hp)
 obtain⟨g1,g2⟩:=pz (x:=x) (y:=y) (q:=q) (r:=x-y*q) ac r0 r1;exact⟨g1,by rw[e,g2]⟩
theorem WM (C:Kc M)(a b:List Int)(oa:okW wB a)(ob:okW wB b)(na:bg a)(nb:bg b)(la:a.length<1000000)(lb:b.length<1000000)(hb:b≠[]):tr M 220 [.vs (aq a) a.length c1,.vs (aq b) b.length c2] (WV wB a) (WV wB b):=by
 have a0:=cX (b:=wB) ao oa;have b0:=(jP (b:=wB) ao ob nb).2 hb;have q286:=fun h=>C.tu a b c1 c2 h oa ob na nb ac ac
 refine Kb (by rw[C.ft];exact Jz) ax ?_;unfold Dw;simp only[enter];by_cases hlt:WV wB a<WV wB b
 . have e:bE (WV wB a-WV wB b) = -1:=if_pos ac;rw[e]at q286;repeat' first|apply abx|apply aa|apply abr|apply aaL|apply acG|apply ba|(apply acO;rfl)|(apply aep;rfl;rfl)|(apply adX;rfl;rfl;first|exact q286 _)|(apply abA;rfl;rfl)|(apply abC;rfl;rfl)|(intro _;omega)|intro _
   all_goals try omega
   exact⟨.inr rfl,rfl,_,rfl,[],a,⟨jr,kR,(fY a0 hlt).symm⟩,⟨oa,na,(l9 a0 hlt).symm⟩,lQ.less⟩
 have hg:∃g,g=bE (WV wB a-WV wB b):=⟨_,rfl⟩;obtain⟨g,hg⟩:=hg;have g0:0<=g:=by
  rw[hg];unfold bE;split
  . omega
  . split <;> omega
 rw[←hg]at q286;have lb0:b.length≠0:=fun h=>hb (i5 h)
 by_cases hl1:b.length=1
 . have t0:=pr nb ac;rw[hl1,show 1-1=0 by omega]at t0;have gb:=cL ob (i:=0) ac;have vb:WV wB b=b[0]! := by
    have:=kS (b:=wB) (l:=b) (n:=0) ac;simpa[WV] using this
   repeat' first|apply abx|apply aa|apply abr|apply aaL|apply aef|apply adA|(apply acO;rfl)|(apply acM;rfl)|(apply aep;rfl;rfl)|(apply afe;rfl;rfl)|(apply afS;rfl;rfl;omega)|(apply adX;rfl;rfl;first|exact q286 _)|(apply aiI;rfl;rfl;omega)|(apply abA;rfl;rfl)|(apply abC;rfl;rfl)|(intro _;omega)|intro _
   all_goals try omega
   refine WE (c1:=c1) (c2:=c2) C.toDJ a b oa ob ac hl1 ac _ _ _ _ _ _ _ _ _ _ _ _ (fun L re lo wr hL oL hre hv=>?_);have q1:CT M (.fn (.func 288) [] []) [.sl 0 0 a.length 1 (some a.length)] [some (.cells (aq L) 274)] ⟨bY 0 (bh (L.take a.length)) (some a.length),[some (.cells (aq L) 274)],[]⟩:=C.mH (cap:=some a.length) rfl ac ac (fun c hc=>by cases hc;exact bA _);have q2:CT M (.fn (.func 288) [] []) [.sl 1 0 1 1 (some 1)] [some (.cells (aq L) 274),some (.cells (aq [re]) 274)] ⟨bY 1 (bh ([re].take 1)) (some 1),[some (.cells (aq L) 274),some (.cells (aq [re]) 274)],[]⟩:=C.mH (cap:=some 1) rfl ax ac (fun c hc=>by cases hc;exact bA _);repeat' first|apply abx|apply aa|apply abr|apply aaL|apply acG|apply ba|apply bJ|(apply ahW;rfl;rfl;first|exact q1|exact q2)|(apply aev;rfl;rfl;rfl)|(apply abA;rfl;rfl)|(apply abC;rfl;rfl)
   have hout:=lQ.trim (d1:=some a.length) (d2:=some 1) (b1:=0) (b2:=1) (L1:=L) (L2:=[re]) (e1:=274) (e2:=274) (hp:=[some (.cells (aq L) 274),some (.cells (aq [re]) 274)]) (n1:=a.length) (n2:=1) rfl ac rfl ax;have vb':WV wB a=WV wB b*WV wB L+re:=by rw[vb];exact hv
   obtain⟨d1,d2⟩:=pz vb' hre.1 (by rw[vb];exact hre.2);refine⟨.inr rfl,rfl,_,rfl,_,_,?_,?_,hout⟩
   . rw[xw,bj (show L.length<=a.length by omega)];obtain⟨h1,h2,h3⟩:=nG oL;exact⟨h1,h2,by rw[h3,d1]⟩
   . rw[xw,bj (show [re].length<=1 by simp)];have gy:b[0]! < 18446744073709551616:=gb.2;obtain⟨h1,h2,h3⟩:=nG (L:=[re]) (fun x hx=>by rw[gT.1 hx];exact⟨hre.1,by show _<(18446744073709551616:Int);omega⟩);exact⟨h1,h2,by rw[h3,←d2];simp[WV]⟩
 obtain⟨k,hk⟩:∃k,b.length=k+2:=⟨b.length-2,ac⟩;have ha:k+2<=a.length:=by
  rcases k9 a.length (k+2) with h|h
  . exact absurd (pt (b:=wB) ao oa ob nb ac) hlt
  . exact h
 obtain⟨s,hs⟩:∃s,s=64-fj b[((b.length:Int)-1).toNat]! := ⟨_,rfl⟩;have gt:=cL ob (i:=((b.length:Int)-1).toNat) ac;have q289:=fun h=>C.tk b[((b.length:Int)-1).toNat]! h gt
 rw[←hs]at q289;rw[show ((b.length:Int)-1).toNat=k+1 by omega]at hs;have s63:s<=63:=by
  have t0:=pr nb ac;rw[show b.length-1=k+1 by omega]at t0;have gt:=cL ob (i:=k+1) ac;have:=(xn (x:=b[k+1]!) ac).1;omega
 obtain⟨rb,⟨lrb,orb,vrb⟩,h290b⟩:=JV (c1:=c2) C.ft b ob ac s s63 [];obtain⟨_,htop,V,Y,eV,lV,oV,vV,tV⟩:=WJ hk ob nb hs ac orb vrb;obtain⟨U0,⟨lU0,oU0,vU0⟩,h290a⟩:=JV (c1:=c1) C.ft a oa ac s s63 [some (.cells (aq (V++Y)) 274)];have q290b:CT M (.fn (.func 290) [] []) [.vs (aq b) b.length c2,.iV s] [] ⟨.sl 0 0 (b.length+1) 1 (some (b.length+1)),[some (.cells (aq (V++Y)) 274)],[]⟩:=by
  rw[←eV];exact CT.run (fi:=[]) (ca:=[]) (C.tq _ _) h290b
 have q288b:CT M (.fn (.func 288) [] []) [.sl 0 0 (b.length+1) 1 (some (b.length+1))] [some (.cells (aq (V++Y)) 274)] ⟨.sl 0 0 (k+2) 1 (some (b.length+1)),[some (.cells (aq (V++Y)) 274)],[]⟩:=by
  have:=C.mH (cap:=some (b.length+1)) (b:=0) (n:=b.length+1) (L:=V++Y) (e:=274) (hp:=[some (.cells (aq (V++Y)) 274)]) rfl (by rw[←eV];omega) ac (fun c hc=>by cases hc;exact bA _);rw[←eV,show b.length+1=k+3 by omega,htop,←show b.length+1=k+3 by omega,eV]at this;exact this
 have q290a:CT M (.fn (.func 290) [] []) [.vs (aq a) a.length c1,.iV s] [some (.cells (aq (V++Y)) 274)] ⟨.sl 1 0 (a.length+1) 1 (some (a.length+1)),[some (.cells (aq (V++Y)) 274),some (.cells (aq U0) 274)],[]⟩:=CT.run (fi:=[]) (ca:=[]) (C.tq _ _) h290a;repeat' first|apply abx|apply aa|apply abr|apply aaL|apply aef|apply adA|(apply acM;rfl)|(apply aep;rfl;rfl)|(apply afe;rfl;rfl)|(apply aeX;rfl;rfl;omega)|(apply afS;rfl;rfl;omega)|(apply adX;rfl;rfl;first|exact q286 _|exact q289 _)|(apply ahW;rfl;rfl;first|exact q290b|exact q288b|exact q290a)|(apply ahT;rfl;rfl;omega)|(apply aiI;rfl;rfl;omega)|(apply aib;rfl;exact fun _=>rfl;(first|omega|(simp only[be];omega)|(simp;omega));decide;rfl;case ia=>infer_instance)|(apply abA;rfl;rfl)|(apply abC;rfl;rfl)|(intro _;omega)|intro _
 all_goals try omega
 rw[show ((a.length:Int)-((k+2:Nat):Int)+1).toNat=a.length+1-(k+2) by omega];have hup:=WK ha oa hk ob nb lU0 oU0 vU0;rw[←vV]at hup;refine WG (cv:=some (b.length+1)) (cap:=some (a.length+1-(k+2))) C.toDL (k:=k) (N:=a.length+1) (V:=V) (Y:=Y) (U0:=U0) ac ac lV oV tV lU0 oU0 hup _ _ _ _ _ _ _ _ _ _ _ _ _ (fun U L lo wr lU oU lL oL hv hlU=>?_) _ ac;repeat' first|apply abx|apply aa|apply abr|apply aaL|apply aef|apply bJ|(apply abC;rfl;rfl)
 refine WI (k:=k) (N:=a.length+1) (s:=s) s63 ac ac lU oU _ _ _ _ _ _ _ _ _ _ _ _ _ (fun D aD lo wr lD oD hD=>?_);have q1:CT M (.fn (.func 288) [] []) [.sl 2 0 (a.length+1-(k+2)) 1 (some (a.length+1-(k+2)))] [some (.cells (aq (V++Y)) 274),some (.cells (aq D) 274),some (.cells (aq L) 274)] ⟨bY 2 (bh (L.take (a.length+1-(k+2)))) (some (a.length+1-(k+2))),[some (.cells (aq (V++Y)) 274),some (.cells (aq D) 274),some (.cells (aq L) 274)],[]⟩:=C.mH (cap:=some (a.length+1-(k+2))) rfl ac ac (fun c hc=>by cases hc;exact bA _);have q2:CT M (.fn (.func 288) [] []) [.sl 1 0 (k+2) 1 (some (a.length+1))] [some (.cells (aq (V++Y)) 274),some (.cells (aq D) 274),some (.cells (aq L) 274)] ⟨bY 1 (bh (D.take (k+2))) (some (a.length+1)),[some (.cells (aq (V++Y)) 274),some (.cells (aq D) 274),some (.cells (aq L) 274)],[]⟩:=C.mH (cap:=some (a.length+1)) rfl ac ac (fun c hc=>by cases hc;omega);repeat' first|(apply ajz (r:=k+2) (k:=.i64);rfl;rfl;omega;omega;(intro c hc;cases hc;exact bA _))|(apply ajb;rfl;rfl;rfl;first|exact q1|exact q2)|apply abx|apply aa|apply aaL|apply acG|apply bJ|apply afU|apply agy|(apply ahl;rfl)|(apply abA;rfl;rfl)|(apply abC;rfl;rfl)
 have hout:=lQ.trim (d1:=some (a.length+1-(k+2))) (d2:=some (a.length+1)) (b1:=2) (b2:=1) (L1:=L) (L2:=D) (e1:=274) (e2:=274) (hp:=[some (.cells (aq (V++Y)) 274),some (.cells (aq D) 274),some (.cells (aq L) 274)]) (n1:=a.length+1-(k+2)) (n2:=k+2) rfl ac rfl ac;have hp2:=cP (n:=2) (m:=s) ao;rw[vU0,vV]at hv;rw[vV]at hlU;obtain⟨d1,d2⟩:=Ke hp2 hv (cX ao oU) hlU;have lt:=dU (b:=wB) ao oV;rw[lV,vV]at lt;have hr:=WL ac oU ac d2 s63 hD;refine⟨.inr rfl,rfl,_,rfl,_,_,?_,?_,hout⟩
 . rw[xw,bj (show L.length<=a.length+1-(k+2) by omega)];obtain⟨h1,h2,h3⟩:=nG oL;exact⟨h1,h2,by rw[h3,d1]⟩
 . rw[xw];obtain⟨h1,h2,h3⟩:=nG (eC oD (k+2));exact⟨h1,h2,by rw[h3,hr]⟩
theorem WN (hft:M.FT=FT)(b:List Int)(_ob:okW wB b)(_nb:bg b)(_hb:b≠[])(q286:∀h,M.ext 286 [.ah,.vs (aq b) b.length c2] h=some ⟨.iV (-1),h,[]⟩):tr M 220 [.ah,.vs (aq b) b.length c2] 0 (WV wB b):=by
 refine Kb (by rw[hft];exact Jz) ax ?_;unfold Dw;simp only[enter];repeat' first|apply abx|apply aa|apply abr|apply aaL|apply acG|apply ba|(apply acO;rfl)|(apply aep;rfl;rfl)|(apply adX;rfl;rfl;first|exact q286 _)|(apply abA;rfl;rfl)|(apply abC;rfl;rfl)|(intro _;omega)|intro _
 all_goals try omega
 refine⟨.inr rfl,rfl,_,rfl,[],[],⟨jr,kR,by simp[WV]⟩,⟨jr,kR,by simp[WV]⟩,bk [.ah,.ah],.ah,.ah,.same rfl,rfl,rfl,.inr ⟨rfl,rfl⟩,.inr ⟨rfl,rfl⟩⟩
theorem DM {h:ab}(l:List Int):pd h (aq l):=qP (fun _=>.cons (.atom rfl) .nil) l
theorem dR.ix {h:ab}{x:AV}{l:List Int}(hx:dR x l):dL h x (.vs (aq l) l.length none):=by
 rcases hx with rfl|⟨rfl,rfl⟩
 . exact dL.pf (DM l)
 . exact .nil
def ak (x:Int):Int:=if x<0 then -x else x
inductive aV:AV->Int->Prop
 | small {s:Int} (h : -9223372036854775808<=s/\s<9223372036854775808):aV (.agg [.int .i64 s,.ah]) s
 | gn {σ z:Int} {w:List Int} (hs:σ=1\/σ = -1) (ok:okW wB w) (nr:bg w) (hw:9223372036854775808<=WV wB w) (hz:z=σ*WV wB w):aV (.agg [.int .i64 σ,.vs (aq w) w.length none]) z
def fG (v:AV)(hh:ab)(v0:AV):Prop:=∃v1,fS hh v v1/\v1.top=0/\bS v1=v0
def dD (M:ay)(g:Nat)(ars:List AV)(v0:AV):Prop:=∃v hh,fG v hh v0/\bm M g ars [] ⟨v,hh,[]⟩
theorem kV {f N:Nat}{aY:List Nat}{res:List fO}{body:al}{ars:List AV}{v0:AV}(hft:M.FT f=some ⟨N,aY,res,body⟩)(hN:ars.length<=N)
 (h:W M body ⟨⟨aY.map (fun t=>(ars[t]?).getD cM),[],[],[]⟩,[]⟩ fun e s=>(e = .normal\/e = .ret)/\s.s.cI=[]/\∃vs,dK s.s res=some vs/\fG (bk vs) (if (bk vs).top<=0 then [] else s.s.hp) v0):dD M f ars v0:=by
 obtain⟨v,hh,ho,h2⟩:=iR (P:=fun v hh=>fG v hh v0) hft hN h;exact⟨v,hh,ho,h2⟩
theorem fG.same {v v0:AV}{hh:ab}(ht:v.top=0)(hc:bS v=v0):fG v hh v0:=⟨v,.same ht,ht,hc⟩
theorem WQ (hft:M.FT=FT)(s:Int)(hs : -9223372036854775808<=s/\s<9223372036854775808):bm M 260 [.iV s] [] ⟨.uV (ak s),[],[]⟩:=by
 refine bX (by rw[hft];exact VI) ax ?_;unfold JD;simp only[enter];by_cases h:s<0
 . have e:ak s = -s:=if_pos h;rw[e];by_cases h2:s = -9223372036854775808
   . subst h2;repeat' first|apply abx|apply aa|apply abr|apply aaL|apply acG|apply ba|(apply acO;rfl)|(apply aep;rfl;rfl)|(apply abA;rfl;rfl)|(apply abC;rfl;rfl)|(intro _;omega)|intro _
     all_goals try omega
     exact⟨.inr rfl,rfl,_,rfl,rfl,rfl⟩
   . repeat' first|apply abx|apply aa|apply abr|apply aaL|apply acG|apply ba|(apply acO;rfl)|(apply aep;rfl;rfl)|(apply ajc;rfl;omega)|(apply aja;rfl;omega)|(apply abA;rfl;rfl)|(apply abC;rfl;rfl)|(intro _;omega)|intro _
     all_goals try omega
     exact⟨.inr rfl,rfl,_,rfl,rfl,rfl⟩
 . have e:ak s=s:=if_neg h;rw[e];repeat' first|apply abx|apply aa|apply abr|apply aaL|apply acG|apply adA|(apply acM;rfl)|(apply aep;rfl;rfl)|(apply ajc;rfl;omega)|(apply abA;rfl;rfl)|(apply abC;rfl;rfl)|(intro _;omega)|intro _
   all_goals try omega
   exact⟨.inr rfl,rfl,_,rfl,rfl,rfl⟩
theorem Kf {x:Int}{b:Nat}{e:TypeId}{hh:ab}{c:Option Nat}(hb:hh.at b=some (.cells (aq [x]) e)):fS hh (.sl b 0 1 1 c) (.vs (aq [x]) 1 none):=
 .sl (m:=aq [x]) hb rfl rfl fun i y z hy hz=>by
  rw[hy]at hz;cases hz;exact .same (dj (iT _) hy)
theorem WR (hft:M.FT=FT)(tv:∀s h,(-9223372036854775808<=s/\s<9223372036854775808)->M.ext 260 [.iV s] h=some ⟨.uV (ak s),h,[]⟩){v:AV}{z:Int}(hv:aV v z) :
 ∃x l,dR x l/\okW wB l/\bg l/\WV wB l=ak z/\dD M 219 [v] (.aw [.bool (decide (z<0)),x]):=by
 cases hv with
 | small h=>
  by_cases h0:z=0
  . subst h0;refine⟨.ah,[],.inr ⟨rfl,rfl⟩,jr,kR,rfl,?_⟩;refine kV (by rw[hft];exact Dy) ax ?_;unfold wZ;simp only[enter];repeat' first|apply abx|apply aa|apply abr|apply aaL|apply aef|apply acG|apply ba|apply cn|(apply acO;rfl)|(apply acM;rfl)|(apply afe;rfl;rfl)|(apply aev;rfl;rfl;rfl)|(apply aes;rfl;rfl;rfl)|(apply abA;rfl;rfl)|(apply abC;rfl;rfl)|(intro _;omega)|intro _
    all_goals try omega
    exact⟨.inr rfl,rfl,_,rfl,.same rfl rfl⟩
  . have gz:0<ak z/\ak z<18446744073709551616:=by unfold ak;split <;> omega
    have ok:okW wB [ak z]:=fun x hx=>by rw[gT.1 hx];exact⟨ac,gz.2⟩
    refine⟨.vs (aq [ak z]) 1 none,[ak z],.inl rfl,ok,(DA ax).2 (by show ak z≠0;omega),by simp[WV],?_⟩;refine kV (by rw[hft];exact Dy) ax ?_;have q260:=fun h'=>tv z h' h
    unfold wZ;simp only[enter];by_cases hn:z<0
    . rw[decide_eq_true hn];repeat' first|(apply ahR;rfl;rfl;(first|(simp only[nca];rfl)|rfl);first|exact q260 _)|apply abx|apply aa|apply abr|apply aaL|apply aef|apply acG|apply adA|apply bC|apply afU|apply agy|(apply ahl;rfl)|(apply ahb;rfl;rfl;(first|(simp only[nca];rfl)|rfl))|(apply aij;rfl)|(apply acM;rfl)|(apply aep;rfl;rfl)|(apply afe;rfl;rfl)|(apply aev;rfl;rfl;rfl)|(apply aes;rfl;rfl;rfl)|(apply abA;rfl;rfl)|(apply abC;rfl;rfl)|(intro _;omega)|intro _
      all_goals try omega
      refine⟨.inr rfl,rfl,_,rfl,.aw [.bool true,.vs (aq [ak z]) 1 none],.aw rfl (fun i a b ha hb=>?_),by simp[AV.top,bO,iT],by simp[bS,dh,mJ]⟩;match i with
      | 0=>cases ha;cases hb;exact .same rfl
      | 1=>cases ha;cases hb;exact Kf rfl
      | i+2=>cases ha
    . rw[decide_eq_false hn];repeat' first|(apply ahR;rfl;rfl;(first|(simp only[nca];rfl)|rfl);first|exact q260 _)|apply abx|apply aa|apply abr|apply aaL|apply aef|apply acG|apply adA|apply bC|apply afU|apply agy|(apply ahl;rfl)|(apply ahb;rfl;rfl;(first|(simp only[nca];rfl)|rfl))|(apply aij;rfl)|(apply acM;rfl)|(apply aep;rfl;rfl)|(apply afe;rfl;rfl)|(apply aev;rfl;rfl;rfl)|(apply aes;rfl;rfl;rfl)|(apply abA;rfl;rfl)|(apply abC;rfl;rfl)|(intro _;omega)|intro _
      all_goals try omega
      refine⟨.inr rfl,rfl,_,rfl,.aw [.bool false,.vs (aq [ak z]) 1 none],.aw rfl (fun i a b ha hb=>?_),by simp[AV.top,bO,iT],by simp[bS,dh,mJ]⟩;match i with
      | 0=>cases ha;cases hb;exact .same rfl
      | 1=>cases ha;cases hb;exact Kf rfl
      | i+2=>cases ha
 | @gn σ z w hs ok nr hw hz=>
  refine⟨.vs (aq w) w.length none,w,.inl rfl,ok,nr,?_,?_⟩
  . subst hz;unfold ak;rcases hs with rfl|rfl
    . rw[if_neg ac];omega
    . rw[if_pos ac];omega
  cases w with
  | nil=>simp[WV]at hw
  | cons y w=>
  refine kV (by rw[hft];exact Dy) ax ?_;unfold wZ;simp only[enter];rcases hs with rfl|rfl
  . have e:¬z<0:=by omega
    rw[decide_eq_false e];repeat' first|apply abx|apply aa|apply abr|apply aaL|apply aef|apply acG|apply ba|apply cn|(apply ahZ;rfl)|(apply acO;rfl)|(apply aep;rfl;rfl)|(apply aev;rfl;rfl;rfl)|(apply aes;rfl;rfl;rfl)|(apply abA;rfl;rfl)|(apply abC;rfl;rfl)|(intro _;omega)|intro _
    all_goals try omega
    exact⟨.inr rfl,rfl,_,rfl,.same (by simp[bk,AV.top,bO,iT]) (by simp[bk,bS,dh,mJ])⟩
  . have e:z<0:=by omega
    rw[decide_eq_true e];repeat' first|apply abx|apply aa|apply abr|apply aaL|apply aef|apply acG|apply ba|apply cn|(apply ahZ;rfl)|(apply acO;rfl)|(apply aep;rfl;rfl)|(apply aev;rfl;rfl;rfl)|(apply aes;rfl;rfl;rfl)|(apply abA;rfl;rfl)|(apply abC;rfl;rfl)|(intro _;omega)|intro _
    all_goals try omega
    exact⟨.inr rfl,rfl,_,rfl,.same (by simp[bk,AV.top,bO,iT]) (by simp[bk,bS,dh,mJ])⟩
def gV (neg:Bool)(n:Int):Int:=if neg then -n else n
theorem DN {σ:Int}{l:List Int}{hh:ab}:fG (bk [.agg [.iV σ,.vs (aq l) l.length none]]) hh (.agg [.iV σ,.vs (aq l) l.length none]):=.same (by simp[bk,AV.top,bO,iT]) (by simp[bk,bS,dh,mJ])
theorem WS (hft:M.FT=FT)(neg:Bool){x:AV}{l:List Int}(hx:dR x l)(ok:okW wB l)(nr:bg l)(hl:l.length<1000000000):∃v0,aV v0 (gV neg (WV wB l))/\dD M 261 [.bool neg,x] v0:=by
 rcases hx with rfl|⟨rfl,rfl⟩
 . by_cases h0:l.length=0
   . refine⟨.agg [.iV 0,.ah],?_,?_⟩
     . have:gV neg (WV wB l)=0:=by rw[i5 h0];cases neg <;> rfl
       rw[this];exact .small ao
     refine kV (by rw[hft];exact th) ax ?_;unfold qY;simp only[enter];repeat' first|apply abx|apply aa|apply abr|apply aaL|apply aef|apply acG|apply ba|apply cn|(apply acO;rfl)|(apply afe;rfl;rfl)|(apply aik;rfl;rfl;exact⟨rfl,by first|exact bA _|decide|(simp[overwrite]),rfl⟩;rfl)|(apply aes;rfl;rfl;rfl)|(apply abA;rfl;rfl)|(intro _;omega)|intro _
     all_goals try omega
     exact⟨.inr rfl,rfl,_,rfl,.same rfl rfl⟩
   by_cases h1:l.length=1
   . obtain⟨y,hy⟩:∃y,y=l[(0:Int).toNat]! := ⟨_,rfl⟩;have gy:=cL ok (i:=0) ac;rw[show l[0]! = y from hy.symm]at gy;have gy:0<=y/\y<18446744073709551616:=gy;have ev:WV wB l=y:=by
      have:=kS (b:=wB) (l:=l) (n:=0) ac;rw[show l[0]! = y from hy.symm]at this;simpa[WV] using this
     by_cases h:y<=9223372036854775807
     . refine⟨.agg [.iV (gV neg y),.ah],by rw[ev];exact .small (by unfold gV;split <;> omega),?_⟩;refine kV (by rw[hft];exact th) ax ?_;unfold qY;simp only[enter];rw[hy]at h gy ⊢;cases neg
       . repeat' first|(apply aiL;rfl;omega)|apply abx|apply aa|apply abr|apply aaL|apply aef|apply acG|apply ba|apply cn|(apply acO;rfl)|(apply acM;rfl)|(apply afg;rfl)|(apply aiw;rfl;rfl)|(apply afe;rfl;rfl)|(apply aeB;rfl;rfl)|(apply aik;rfl;rfl;exact⟨rfl,by first|exact bA _|decide|(simp[overwrite]),rfl⟩;rfl)|(apply ahT;rfl;rfl;omega)|(apply aib;rfl;exact fun _=>rfl;(first|omega|(simp only[be];omega)|(simp;omega));decide;rfl;case ia=>infer_instance)|(apply aes;rfl;rfl;rfl)|(apply abA;rfl;rfl)|(intro _;omega)|intro _
         all_goals try omega
         exact⟨.inr rfl,rfl,_,rfl,.same rfl rfl⟩
       . repeat' first|(apply aiL;rfl;omega)|(apply aja;rfl;omega)|apply abx|apply aa|apply abr|apply aaL|apply aef|apply acG|apply ba|apply cn|(apply acO;rfl)|(apply acM;rfl)|(apply afg;rfl)|(apply aiw;rfl;rfl)|(apply afe;rfl;rfl)|(apply aeB;rfl;rfl)|(apply aik;rfl;rfl;exact⟨rfl,by first|exact bA _|decide|(simp[overwrite]),rfl⟩;rfl)|(apply ahT;rfl;rfl;omega)|(apply aib;rfl;exact fun _=>rfl;(first|omega|(simp only[be];omega)|(simp;omega));decide;rfl;case ia=>infer_instance)|(apply aes;rfl;rfl;rfl)|(apply abA;rfl;rfl)|(intro _;omega)|intro _
         all_goals try omega
         exact⟨.inr rfl,rfl,_,rfl,.same rfl rfl⟩
     . refine⟨.agg [.iV (gV neg 1),.vs (aq l) l.length none],.gn (w:=l) (by cases neg;exact .inl rfl;exact .inr rfl) ok nr (by rw[ev];omega) (by cases neg <;> simp[gV]),?_⟩;refine kV (by rw[hft];exact th) ax ?_;unfold qY;simp only[enter];rw[hy]at h gy;cases neg;all_goals
       . repeat' first|apply abx|apply aa|apply abr|apply aaL|apply aef|apply acG|apply adA|apply ba|apply bC|apply cn|(apply acO;rfl)|(apply acM;rfl)|(apply afg;rfl)|(apply ahU;rfl)|(apply aiw;rfl;rfl)|(apply afe;rfl;rfl)|(apply aeB;rfl;rfl)|(apply aeC;rfl;rfl)|(apply aik;rfl;rfl;exact⟨rfl,by first|exact bA _|decide|(simp[overwrite]),rfl⟩;rfl)|(apply ahT;rfl;rfl;omega)|(apply aib;rfl;exact fun _=>rfl;(first|omega|(simp only[be];omega)|(simp;omega));decide;rfl;case ia=>infer_instance)|(apply aes;rfl;rfl;rfl)|(apply abA;rfl;rfl)|(intro _;omega)|intro _
         all_goals try omega
         exact⟨.inr rfl,rfl,_,rfl,DN⟩
   have h2:9223372036854775808<=WV wB l:=by
    have h:=qZ (b:=wB) ao ok nr ac;have h2:=iS (b:=wB) ao (m:=1) (n:=l.length-1) ac;have h3:wB^1=18446744073709551616:=rfl;omega
   refine⟨.agg [.iV (gV neg 1),.vs (aq l) l.length none],.gn (w:=l) (by cases neg;exact .inl rfl;exact .inr rfl) ok nr h2 (by cases neg <;> simp[gV]),?_⟩;refine kV (by rw[hft];exact th) ax ?_;unfold qY;simp only[enter];cases neg;all_goals
   . repeat' first|apply abx|apply aa|apply abr|apply aaL|apply aef|apply acG|apply adA|apply ba|apply bC|apply cn|(apply acO;rfl)|(apply acM;rfl)|(apply ahU;rfl)|(apply afe;rfl;rfl)|(apply aeC;rfl;rfl)|(apply aik;rfl;rfl;exact⟨rfl,by first|exact bA _|decide|(simp[overwrite]),rfl⟩;rfl)|(apply aes;rfl;rfl;rfl)|(apply abA;rfl;rfl)|(intro _;omega)|intro _
     all_goals try omega
     exact⟨.inr rfl,rfl,_,rfl,DN⟩
 . refine⟨.agg [.iV 0,.ah],?_,?_⟩
   . have:gV neg (WV wB [])=0:=by cases neg <;> rfl
     rw[this];exact .small ao
   refine kV (by rw[hft];exact th) ax ?_;unfold qY;simp only[enter];cases neg;all_goals
   . repeat' first|apply abx|apply aa|apply abr|apply aaL|apply aef|apply acG|apply ba|apply cn|(apply acO;rfl)|(apply afe;rfl;rfl)|(apply aik;rfl;rfl;exact⟨rfl,by first|exact bA _|decide|(simp[overwrite]),rfl⟩;rfl)|(apply aes;rfl;rfl;rfl)|(apply abA;rfl;rfl)|(intro _;omega)|intro _
     all_goals try omega
     exact⟨.inr rfl,rfl,_,rfl,.same rfl rfl⟩
set_option maxRecDepth 1000000
def xy:al:=zR [zx 1 171 2 0,⟨.p 2,.alloc 171 [.iV (0),.ah],none⟩] (.seq (zR [zf 5 1 1,zd 6 1 5,⟨.l 7,.eq false (.ref .slice) (.l 6) (.c (.ah)),none⟩,zn 8 7,zg (zf 9 0 1) 8 true,zg (zd 10 1 9) 8 true,zg (zc 11 .neq 10 (-9223372036854775808)) 8 true,zp 12 8 11] (.cond (.l 12) (zR [zf 13 0 1,zd 14 1 13,⟨.l 15,.un .neg (.l 14),none⟩,⟨.l 16,.build [.iV (0),.ah] [(0,1,(.l 15))],none⟩,zs 2 2 16] (.ret)) (.skip))) (zR [zt 18 2 1,z1 19 219 18,zn 17 19,ze 20 0 17,ze 21 1 17,zw 3 20,zw 4 21] (zR [zm 22 3,zu 23 22,zm 24 4,z2 25 261 23 24,zs 2 2 25] (.ret))))
theorem Kg:FT 201=some ⟨26,[0,1,2,3,4],[.cell 2 true (.p 2)],xy⟩:=by kernel_rfl
def DO:al:=zR [zx 1 171 2 0,⟨.p 2,.alloc 171 [.iV (0),.ah],none⟩] (.seq (zR [zf 3 0 1,zd 4 1 3,zc 5 .lss 4 0] (.cond (.l 5) (zR [zt 6 2 1,z1 7 201 6,zs 2 2 7] (.ret)) (.skip))) (zR [zt 8 2 1,zs 2 2 8] (.ret)))
theorem Kh:FT 298=some ⟨9,[0,1,2],[.cell 2 true (.p 2)],DO⟩:=by kernel_rfl
def DP:al:=zR [zx 1 171 2 0,zi 2 0] (zR [zf 3 0 1,zd 4 1 3,⟨.l 5,.mm false [(kI 1),(.l 4)],none⟩,⟨.l 6,.mm true [(kI (-1)),(.l 5)],none⟩,zw 2 6] (.ret))
theorem WT:FT 230=some ⟨7,[0,1,2],[.var (.p 2)],DP⟩:=by kernel_rfl
def rk:al:=zR [zx 2 171 2 0,zx 3 171 2 1,⟨.p 4,.alloc 171 [.iV (0),.ah],none⟩] (.seq (zR [zf 10 1 2,zd 11 1 10,⟨.l 12,.eq false (.ref .slice) (.l 11) (.c (.ah)),none⟩,zn 13 12,zg (zf 14 1 3) 13 true,zg (zd 15 1 14) 13 true,⟨.l 16,.eq false (.ref .slice) (.l 15) (.c (.ah)),some ((.l 13),true)⟩,zp 17 13 16] (.cond (.l 17) (zR [zf 18 0 2,zd 19 1 18,zf 20 0 3,zd 21 1 20,zb 22 .add 19 21,zw 5 22] (zR [zm 23 5,zf 24 0 2,zd 25 1 24,zb 26 .gtr 23 25,zf 27 0 3,zd 28 1 27,zc 29 .gtr 28 0,⟨.l 30,.eq false .bool (.l 26) (.l 29),none⟩] (.cond (.l 30) (zR [zm 31 5,⟨.l 32,.build [.iV (0),.ah] [(0,1,(.l 31))],none⟩,zs 2 4 32] (.ret)) (.skip)))) (.skip))) (zR [zt 34 2 2,z1 35 219 34,zn 33 35,ze 36 0 33,ze 37 1 33,zw 6 36,zw 7 37] (zR [zt 39 2 3,z1 40 219 39,zn 38 40,ze 41 0 38,ze 42 1 38,zw 8 41,zw 9 42] (.seq (.block 0 (zR [zm 44 6,zm 45 8,⟨.l 46,.eq false .bool (.l 44) (.l 45),none⟩,zn 43 46] (.cond (.l 43) (zR [zm 47 6,zm 48 7,zm 49 9,z2 50 308 48 49,z2 51 261 47 50,zs 2 4 51] (.ret)) (zR [zm 53 7,zm 54 9,z2 55 286 53 54,zc 56 .geq 55 0,zn 52 56] (.cond (.l 52) (zR [zm 57 6,zm 58 7,zm 59 9,z2 60 309 58 59,z2 61 261 57 60,zs 2 4 61] (.ret)) (.skip)))))) (zR [zm 62 8,zm 63 9,zm 64 7,z2 65 309 63 64,z2 66 261 62 65,zs 2 4 66] (.ret))))))
theorem tw:FT 253=some ⟨67,[0,1,2,3,4,5,6,7,8,9],[.cell 2 true (.p 4)],rk⟩:=by kernel_rfl
def Ki:al:=zR [zx 2 171 2 0,zx 3 171 2 1,⟨.p 4,.alloc 171 [.iV (0),.ah],none⟩] (.seq (.draw [(zt 5 2 2,[]),(zt 6 2 3,[0]),(z1 7 201 6,[0]),(z2 8 253 5 7,[]),(zs 2 4 8,[])]) (.ret))
theorem WU:FT 263=some ⟨9,[0,1,2,3,4],[.cell 2 true (.p 4)],Ki⟩:=by kernel_rfl
def Kj:al:=zR [zx 2 171 2 0,zx 3 171 2 1,zi 4 0] (.seq (zR [zf 5 1 2,zd 6 1 5,⟨.l 7,.eq false (.ref .slice) (.l 6) (.c (.ah)),none⟩,zn 8 7,zg (zf 9 1 3) 8 true,zg (zd 10 1 9) 8 true,⟨.l 11,.eq false (.ref .slice) (.l 10) (.c (.ah)),some ((.l 8),true)⟩,zp 12 8 11] (.cond (.l 12) (.seq (.block 0 (zR [zf 14 0 2,zd 15 1 14,zf 16 0 3,zd 17 1 16,zb 18 .lss 15 17,zn 13 18] (.cond (.l 13) (zR [zi 4 (-1)] (.ret)) (zR [zf 20 0 2,zd 21 1 20,zf 22 0 3,zd 23 1 22,zb 24 .gtr 21 23,zn 19 24] (.cond (.l 19) (zR [zi 4 1] (.ret)) (.skip)))))) (zR [zi 4 0] (.ret))) (.skip))) (zR [zt 25 2 2,zt 26 2 3,z2 27 263 25 26,z1 28 230 27,zw 4 28] (.ret)))
theorem WW:FT 200=some ⟨29,[0,1,2,3,4],[.var (.p 4)],Kj⟩:=by kernel_rfl
def rl:al:=zR [zx 2 171 2 0,zx 3 171 2 1,⟨.p 4,.alloc 171 [.iV (0),.ah],none⟩] (.seq (zR [zf 11 1 2,zd 12 1 11,⟨.l 13,.eq false (.ref .slice) (.l 12) (.c (.ah)),none⟩,zn 14 13,zg (zf 15 1 3) 14 true,zg (zd 16 1 15) 14 true,⟨.l 17,.eq false (.ref .slice) (.l 16) (.c (.ah)),some ((.l 14),true)⟩,zp 18 14 17] (.cond (.l 18) (.seq (.draw [(zf 20 0 2,[]),(zd 21 1 20,[]),(z1 22 260 21,[]),(zf 23 0 3,[0,1,2]),(zd 24 1 23,[0,1,2]),(z1 25 260 24,[]),(z2 26 259 22 25,[]),(zn 19 26,[]),(ze 27 0 19,[]),(ze 28 1 19,[8]),(zw 5 27,[9]),(zw 6 28,[])]) (zR [zm 29 5,⟨.l 30,.bin .eql (.l 29) (kU 0),none⟩,zn 31 30,zg (zm 32 6) 31 true,⟨.l 33,.bin .leq (.l 32) (kU 9223372036854775807),some ((.l 31),true)⟩,zp 34 31 33] (.cond (.l 34) (.seq (zR [zf 35 0 2,zd 36 1 35,zc 37 .lss 36 0,zf 38 0 3,zd 39 1 38,zc 40 .lss 39 0,⟨.l 41,.eq true .bool (.l 37) (.l 40),none⟩] (.cond (.l 41) (zR [zm 42 6,⟨.l 43,.gW .i64 (.l 42),none⟩,⟨.l 44,.un .neg (.l 43),none⟩,⟨.l 45,.build [.iV (0),.ah] [(0,1,(.l 44))],none⟩,zs 2 4 45] (.ret)) (.skip))) (zR [zm 46 6,⟨.l 47,.gW .i64 (.l 46),none⟩,⟨.l 48,.build [.iV (0),.ah] [(0,1,(.l 47))],none⟩,zs 2 4 48] (.ret))) (.skip)))) (.skip))) (zR [zt 50 2 2,z1 51 219 50,zn 49 51,ze 52 0 49,ze 53 1 49,zw 7 52,zw 8 53] (zR [zt 55 2 3,z1 56 219 55,zn 54 56,ze 57 0 54,ze 58 1 54,zw 9 57,zw 10 58] (zR [zm 59 7,zm 60 9,⟨.l 61,.eq true .bool (.l 59) (.l 60),none⟩,zm 62 8,zm 63 10,z2 64 262 62 63,z2 65 261 61 64,zs 2 4 65] (.ret)))))
theorem tx:FT 199=some ⟨66,[0,1,2,3,4,5,6,7,8,9,10],[.cell 2 true (.p 4)],rl⟩:=by kernel_rfl
def Kk:al:=zR [⟨.p 1,.alloc 171 [.iV (0),.ah],none⟩] (zR [zm 3 0,⟨.l 4,.build [.iV (0),.ah] [(0,1,(.l 3))],none⟩,zs 2 1 4] (.ret))
theorem WX:FT 196=some ⟨5,[0,2],[.cell 2 true (.p 1)],Kk⟩:=by kernel_rfl
def rm:al:=zR [zx 2 171 2 0,zx 3 171 2 1,⟨.p 4,.alloc 171 [.iV (0),.ah],none⟩,⟨.p 5,.alloc 171 [.iV (0),.ah],none⟩] (.seq (zR [zf 16 1 2,zd 17 1 16,⟨.l 18,.eq false (.ref .slice) (.l 17) (.c (.ah)),none⟩,zn 19 18,zg (zf 20 1 3) 19 true,zg (zd 21 1 20) 19 true,⟨.l 22,.eq false (.ref .slice) (.l 21) (.c (.ah)),some ((.l 19),true)⟩,zp 23 19 22,zn 24 23,zg (zf 25 0 2) 24 true,zg (zd 26 1 25) 24 true,zg (zc 27 .neq 26 (-9223372036854775808)) 24 true,zp 28 24 27] (.cond (.l 28) (.seq (.draw [(zf 29 0 2,[]),(zd 30 1 29,[]),(zf 31 0 3,[0,1]),(zd 32 1 31,[0,1]),(zb 33 .quo 30 32,[]),(zf 34 0 2,[0,1,2,3,4]),(zd 35 1 34,[0,1,2,3,4]),(zf 36 0 3,[0,1,2,3,4,5,6]),(zd 37 1 36,[0,1,2,3,4,5,6]),(zb 38 .rem 35 37,[0,1,2,3,4]),(zw 6 33,[5,6,7,8,9]),(zw 7 38,[])]) (.seq (zR [zm 39 7,zc 40 .lss 39 0] (.cond (.l 40) (.draw [(zm 41 6,[]),(zc 42 .sub 41 1,[]),(zm 43 7,[0,1]),(zf 44 0 3,[0,1,2]),(zd 45 1 44,[0,1,2]),(zb 46 .add 43 45,[0,1]),(zw 6 42,[2,3,4,5]),(zw 7 46,[])]) (.skip))) (zR [zm 47 6,⟨.l 48,.build [.iV (0),.ah] [(0,1,(.l 47))],none⟩,zm 49 7,⟨.l 50,.build [.iV (0),.ah] [(0,1,(.l 49))],none⟩,zs 2 4 48,zs 2 5 50] (.ret)))) (.skip))) (zR [zt 52 2 2,z1 53 219 52,zn 51 53,ze 54 0 51,ze 55 1 51,zw 8 54,zw 9 55] (zR [zt 57 2 3,z1 58 219 57,zn 56 58,ze 59 0 56,ze 60 1 56,zn 10 59,zw 10 60] (zR [zm 62 9,zm 63 10,z2 64 220 62 63,zn 61 64,ze 65 0 61,ze 66 1 61,zw 11 65,zw 12 66] (zR [zm 67 8,zm 68 11,z2 69 261 67 68,zm 70 8,zm 71 12,z2 72 261 70 71,⟨.p 13,.alloc 171 [.iV (0),.ah],none⟩,⟨.p 14,.alloc 171 [.iV (0),.ah],none⟩,zs 2 13 69,zs 2 14 72] (.seq (zR [zt 73 2 14,z1 74 230 73,zc 75 .lss 74 0] (.cond (.l 75) (.draw [(zt 76 2 13,[]),(⟨.l 77,.call (kF 196) [(kI 1)],none⟩,[0]),(z2 78 263 76 77,[]),(zt 79 2 14,[0,1,2]),(zt 80 2 3,[0,1,2,3]),(z2 81 253 79 80,[]),(zs 2 13 78,[]),(zs 2 14 81,[])]) (.skip))) (.seq (.draw [(zt 82 2 13,[]),(zt 83 2 14,[0]),(zs 2 4 82,[1]),(zs 2 5 83,[])]) (.ret))))))))
theorem tz:FT 299=some ⟨84,[0,1,2,3,4,5,6,7,8,9,11,12,13,14,15],[.cell 2 true (.p 4),.cell 2 true (.p 5)],rm⟩:=by kernel_rfl
def DQ:al:=zR [zx 2 171 2 0,zx 3 171 2 1,⟨.p 4,.alloc 171 [.iV (0),.ah],none⟩] (.seq (zR [zt 7 2 3,z1 8 230 7,zc 9 .lss 8 0] (.cond (.l 9) (.draw [(zt 10 2 2,[]),(z1 11 201 10,[]),(zt 12 2 3,[0,1]),(z1 13 201 12,[]),(zs 2 2 11,[]),(zs 2 3 13,[])]) (.skip))) (zR [zt 15 2 2,zt 16 2 3,z2 17 299 15 16,zn 14 17,ze 18 0 14,ze 19 1 14,⟨.p 5,.alloc 171 [.iV (0),.ah],none⟩,⟨.l 6,.alloc 171 [.iV (0),.ah],none⟩,zs 2 5 18,zS 2 6 19] (zR [zt 20 2 5,zs 2 4 20] (.ret))))
theorem Kl:FT 258=some ⟨21,[0,1,2,3,4,5],[.cell 2 true (.p 4)],DQ⟩:=by kernel_rfl
def xz:al:=.seq (zR [zt 11 2 3,z1 12 230 11,zc 13 .neq 12 0] (.cond (.l 13) (.skip) (.exit 0))) (.block 1 (zR [zt 15 2 2,zt 16 2 3,z2 17 299 15 16,zn 14 17,ze 18 0 14,ze 19 1 14,⟨.l 5,.alloc 171 [.iV (0),.ah],none⟩,⟨.p 5,.alloc 171 [.iV (0),.ah],none⟩,zS 2 5 18,zs 2 5 19] (.draw [(zt 20 2 3,[]),(zt 21 2 5,[0]),(zs 2 2 20,[1]),(zs 2 3 21,[])])))
def Km:al:=zR [zx 2 171 2 0,zx 3 171 2 1,⟨.p 4,.alloc 171 [.iV (0),.ah],none⟩] (.seq (.draw [(zt 7 2 2,[]),(z1 8 298 7,[]),(zt 9 2 3,[0,1]),(z1 10 298 9,[]),(zs 2 2 8,[]),(zs 2 3 10,[])]) (.seq (.block 0 (.loop xz)) (zR [zt 22 2 2,zs 2 4 22] (.ret))))
theorem WY:FT 229=some ⟨23,[0,1,2,3,4,6],[.cell 2 true (.p 4)],Km⟩:=by kernel_rfl
structure CI (M:ay)(N:Nat):Prop where
 ft:M.FT=FT
 lN:N<=500000
 tv:∀s h,(-9223372036854775808<=s/\s<9223372036854775808)->M.ext 260 [.iV s] h=some ⟨.uV (ak s),h,[]⟩
 pw:∀(x y:Int) h,(0<=x/\x<18446744073709551616)->(0<=y/\y<18446744073709551616)->M.ext 259 [.uV x,.uV y] h=some ⟨.aw [.uV (x*y/18446744073709551616),.uV (x*y%18446744073709551616)],h,[]⟩
 nJ:∀v z,aV v z->∃x l,dR x l/\okW wB l/\bg l/\WV wB l=ak z/\∀h,M.ext 219 [v] h=some ⟨.aw [.bool (decide (z<0)),x],h,[]⟩
 kX:∀neg x l,dR x l->okW wB l->bg l->l.length<=1000001->∃v0,aV v0 (gV neg (WV wB l))/\∀h,M.ext 261 [.bool neg,x] h=some ⟨v0,h,[]⟩
 Kn:∀x l y m,dR x l->dR y m->okW wB l->okW wB m->l.length<=500000->m.length<=500000->∃r,okW wB r/\bg r/\WV wB r=WV wB l+WV wB m/\∀h,M.ext 308 [x,y] h=some ⟨.vs (aq r) r.length none,h,[]⟩
 DR:∀x l y m,dR x l->dR y m->okW wB l->okW wB m->bg l->bg m->l.length<=500000->m.length<=500000->WV wB m<=WV wB l->∃r,okW wB r/\bg r/\WV wB r=WV wB l-WV wB m/\∀h,M.ext 309 [x,y] h=some ⟨.vs (aq r) r.length none,h,[]⟩
 Ko:∀x l y m,dR x l->dR y m->okW wB l->okW wB m->l.length<=500000->m.length<=500000->∃r,okW wB r/\bg r/\WV wB r=WV wB l*WV wB m/\∀h,M.ext 262 [x,y] h=some ⟨.vs (aq r) r.length none,h,[]⟩
 tu:∀x l y m,dR x l->dR y m->okW wB l->okW wB m->bg l->bg m->l.length<=500000->m.length<=500000->∀h,M.ext 286 [x,y] h=some ⟨.iV (bE (WV wB l-WV wB m)),h,[]⟩
theorem aV.out {v:AV}{z:Int}{hh:ab}(h:aV v z):fG (bk [v]) hh v:=by
 cases h with
 | small=>exact .same rfl rfl
 | gn=>exact DN
variable {N:Nat}
theorem CI.len (C:CI M N){z:Int}{l:List Int}(ok:okW wB l)(nr:bg l)(hv:WV wB l=ak z)(hz:ak z<wB^N):l.length<=500000:=
 jV (ib (b:=wB) ao ok nr (by rw[hv];exact hz)) C.lN
theorem WZ (C:CI M N){v:AV}{z:Int}(hv:aV v z)(hz:ak z<wB^N):∃v0,aV v0 (-z)/\dD M 201 [v] v0:=by
 obtain⟨x,l,hx,ok,nr,hl,q219⟩:=C.nJ v z hv;have len:=C.len ok nr hl hz;obtain⟨v0,h0,q261⟩:=C.kX (!(decide (z<0))) x l hx ok nr ac;have ev:gV (!(decide (z<0))) (WV wB l) = -z:=by
  rw[hl];unfold gV ak;by_cases h:z<0
  . simp[h]
  . simp[h]
 rw[ev]at h0;by_cases hsm:(∃s,v = .agg [.iV s,.ah])/\z ≠ -9223372036854775808
 . obtain⟨⟨s,rfl⟩,hne⟩:=hsm;cases hv with
   | small h=>
   refine⟨.agg [.iV (-z),.ah],.small ac,?_⟩;refine kV (by rw[C.ft];exact Kg) ax ?_;unfold xy;simp only[enter];repeat' first|apply abx|apply aa|apply abr|apply aaL|apply acG|apply ba|(apply acO;rfl)|(apply afg;rfl)|(apply agx;rfl;rfl)|(apply aeB;rfl;rfl)|(apply aik;rfl;rfl;exact⟨rfl,by first|exact bA _|decide|(simp[overwrite]),rfl⟩;rfl)|(apply aie;rfl;(first|(focus((repeat' first|exact cj|assumption|apply cB);done))|exact cQ ax);rfl)|(apply aja;rfl;omega)|(apply aes;rfl;rfl;rfl)|(apply abA;rfl;rfl)|(intro _;omega)|intro _
   all_goals try omega
   exact⟨.inr rfl,rfl,_,rfl,.same rfl rfl⟩
 . refine⟨v0,h0,kV (by rw[C.ft];exact Kg) ax ?_⟩;have out:=fun hh=>h0.out (hh:=hh)
   cases hv with
   | small h=>
    have hz:z = -9223372036854775808:=Decidable.byContradiction fun h'=>hsm ⟨⟨z,rfl⟩,h'⟩
    subst hz;unfold xy;simp only[enter];cases h0;all_goals
    . repeat' first|apply abx|apply aa|apply abr|apply aaL|apply acG|apply adA|(apply acM;rfl)|(apply afg;rfl)|(apply agx;rfl;rfl)|(apply aeB;rfl;rfl)|(apply adX;rfl;rfl;first|exact q219 _|exact q261 _)|(apply aik;rfl;rfl;exact⟨rfl,by first|exact bA _|decide|(simp[overwrite]),rfl⟩;rfl)|(apply aie;rfl;(first|(focus((repeat' first|exact cj|assumption|apply cB);done))|exact cQ ax);rfl)|(apply aes;rfl;rfl;rfl)|(apply abA;rfl;rfl)|(apply abC;rfl;rfl)|(intro _;omega)|intro _
      all_goals try omega
      all_goals exact⟨.inr rfl,rfl,_,rfl,out _⟩
   | @gn σ z w hs ok' nr' hw hz'=>
    cases w with
    | nil=>simp[WV]at hw
    | cons y w=>
    unfold xy;simp only[enter];by_cases hn:z<0
    all_goals
    . simp only[hn,decide_true,decide_false,Bool.not_true,Bool.not_false]at q219 q261;cases h0;all_goals
      . repeat' first|apply abx|apply aa|apply abr|apply aaL|apply acG|apply adA|(apply acM;rfl)|(apply ahU;rfl)|(apply aeC;rfl;rfl)|(apply adX;rfl;rfl;first|exact q219 _|exact q261 _)|(apply aik;rfl;rfl;exact⟨rfl,by first|exact bA _|decide|(simp[overwrite]),rfl⟩;rfl)|(apply aie;rfl;(first|(focus((repeat' first|exact cj|assumption|apply cB);done))|exact cQ ax);rfl)|(apply aes;rfl;rfl;rfl)|(apply abA;rfl;rfl)|(apply abC;rfl;rfl)
        all_goals try omega
        all_goals exact⟨.inr rfl,rfl,_,rfl,out _⟩
theorem Xa (hft:M.FT=FT){v:AV}{z:Int}(hv:aV v z):bm M 230 [v] [] ⟨.iV (bE z),[],[]⟩:=by
 refine bX (by rw[hft];exact WT) ax ?_;have key:∀s:Int,(AV.iV (if (if s<1 then s else 1) > -1 then (if s<1 then s else 1) else -1)) = .iV (bE s):=fun s=>by
  congr 1;unfold bE;by_cases h:s<0
  . rw[if_pos h,if_pos (show s<1 by omega)];split <;> omega
  . rw[if_neg h];by_cases h1:0<s
    . rw[if_pos h1,if_neg (show ¬s<1 by omega)];rfl
    . obtain rfl:s=0:=by omega
      rfl
 cases hv with
 | small h=>
  unfold DP;simp only[enter];repeat' first|apply abx|apply aa|apply abr|apply aaL|apply acG|(apply aev;rfl;rfl;rfl)|(apply aes;rfl;rfl;rfl)|(apply abA;rfl;rfl)|(apply abC;rfl;rfl)
  exact⟨.inr rfl,rfl,_,rfl,key z,rfl⟩
 | @gn σ z w hs ok nr hw hz=>
  have e:bE z=σ:=by
   unfold bE;rcases hs with rfl|rfl
   . rw[if_neg ac,if_pos ac]
   . rw[if_pos ac]
  have k:=key σ;rw[show bE σ=bE z by rw[e];rcases hs with rfl|rfl <;> rfl]at k;unfold DP;simp only[enter];repeat' first|apply abx|apply aa|apply abr|apply aaL|apply acG|(apply aev;rfl;rfl;rfl)|(apply aes;rfl;rfl;rfl)|(apply abA;rfl;rfl)|(apply abC;rfl;rfl)
  exact⟨.inr rfl,rfl,_,rfl,k,rfl⟩
def t253:al:=
 zR [zt 34 2 2,
      z1 35 219 34,
      zn 33 35,
      ze 36 0 33,
      ze 37 1 33,
      zw 6 36,
      zw 7 37]
    (
     zR [zt 39 2 3,
       z1 40 219 39,
       zn 38 40,
       ze 41 0 38,
       ze 42 1 38,
       zw 8 41,
       zw 9 42]
     (
      .seq (.block 0
       (
        zR [zm 44 6,
          zm 45 8,
          ⟨(.l 46),.eq false .bool (.l 44) (.l 45),none⟩,
          zn 43 46]
        (
         .cond (.l 43)
         (
          zR [zm 47 6,
            zm 48 7,
            zm 49 9,
            z2 50 308 48 49,
            z2 51 261 47 50,
            zs 2 4 51]
          (.ret))
         (
          zR [zm 53 7,
            zm 54 9,
            z2 55 286 53 54,
            zc 56 .geq 55 0,
            zn 52 56]
          (
           .cond (.l 52)
           (
            zR [zm 57 6,
              zm 58 7,
              zm 59 9,
              z2 60 309 58 59,
              z2 61 261 57 60,
              zs 2 4 61]
            (.ret))
           (.skip))))))
      (
       zR [zm 62 8,
         zm 63 9,
         zm 64 7,
         z2 65 309 63 64,
         z2 66 261 62 65,
         zs 2 4 66]
       (.ret))))
theorem Xb {l m r:List Int}(C:CI M N)(ok:okW wB r)(nr:bg r)(hr:WV wB r=WV wB l+WV wB m)(hl:WV wB l<wB^N)(hm:WV wB m<wB^N):r.length<=1000001:=by
 have hN:=C.lN;have hp:wB^(N+1)=wB^N*18446744073709551616:=cT _ _;have hp0:0<wB^N:=cP ao;exact jV (ib (b:=wB) ao ok nr (n:=N+1) (by rw[hr,hp];omega)) ac
def mK (v0:AV)(res:List fO)(e:Ex)(s:au):Prop:=(e = .normal\/e = .ret)/\s.s.cI=[]/\∃vs,dK s.s res=some vs/\fG (bk vs) (if (bk vs).top<=0 then [] else s.s.hp) v0
theorem cV {v0:AV}{res:List fO}{s:au}{vs:List AV}(hd:s.s.cI=[])(h:dK s.s res=some vs)(ho:fG (bk vs) (if (bk vs).top<=0 then [] else s.s.hp) v0):mK v0 res .ret s:=⟨.inr rfl,hd,vs,h,ho⟩
theorem Xc (C:CI M N){s s' za zb:Int}{wa wb:AV}(ha:aV (.agg [.iV s,wa]) za)(hb:aV (.agg [.iV s',wb]) zb)(lza:ak za<wB^N)(lzb:ak zb<wB^N) :
 ∃v0,aV v0 (za+zb)/\∀a0 a1 a5 a6 a7 a8 a9 lo wr,W M t253 ⟨⟨[a0,a1,.ptr 0 0,.ptr 1 0,.ptr 2 0,a5,a6,a7,a8,a9],lo,[some (.cells [.iV s,wa] 171),some (.cells [.iV s',wb] 171),some (.cells [.iV 0,.ah] 171)],[]⟩,wr⟩ (mK v0 [.cell 2 true (.p 4)]):=by
 obtain⟨x,l,hx,okl,nrl,vl,q219a⟩:=C.nJ _ za ha;obtain⟨y,m,hy,okm,nrm',vm,q219b⟩:=C.nJ _ zb hb;have ll:=C.len okl nrl vl lza;have lm:=C.len okm nrm' vm lzb;have l0:=cX (b:=wB) ao okl;have m0:=cX (b:=wB) ao okm;have lN:=C.lN;by_cases hs:decide (za<0)=decide (zb<0)
 . obtain⟨r,okr,nrr,vr,q308⟩:=C.Kn x l y m hx hy okl okm ll lm;obtain⟨v0,h0,q261⟩:=C.kX (decide (za<0)) (.vs (aq r) r.length none) r (.inl rfl) okr nrr (Xb C okr nrr vr (by rw[vl];exact lza) (by rw[vm];exact lzb));have ev:gV (decide (za<0)) (WV wB r)=za+zb:=by
    rw[vr,vl,vm];unfold gV ak;by_cases h:za<0 <;> by_cases h':zb<0 <;> simp[h,h']at hs ⊢ <;> omega
   rw[ev]at h0;refine⟨v0,h0,fun a0 a1 a5 a6 a7 a8 a9 lo wr=>?_⟩;have out:=fun hh=>h0.out (hh:=hh)
   unfold t253;by_cases h:za<0 <;> by_cases h':zb<0 <;> simp only[h,h',decide_true,decide_false]at hs q219a q219b q261
   all_goals first|(exfalso;revert hs;decide)|skip
   all_goals
   . cases h0;all_goals
     . repeat' first|apply abx|apply aa|apply abr|apply aaL|apply aef|apply acG|apply ba|apply cn|(apply acO;rfl)|(apply adX;rfl;rfl;first|exact q219a _|exact q219b _|exact q308 _|exact q261 _)|(apply aev;rfl;rfl;rfl)|(apply ahX;rfl;rfl;rfl)|(apply abA;rfl;rfl)|(apply abC;rfl;rfl)
       all_goals try omega
       all_goals exact cV rfl rfl (out _)
 have q286:=C.tu x l y m hx hy okl okm nrl nrm' ll lm;by_cases hc:WV wB m<=WV wB l
 . obtain⟨g,hg⟩:∃g,g=bE (WV wB l-WV wB m):=⟨_,rfl⟩;have g0:0<=g:=by rw[hg];unfold bE;split <;> omega
   rw[←hg]at q286;obtain⟨r,okr,nrr,vr,q309⟩:=C.DR x l y m hx hy okl okm nrl nrm' ll lm hc;obtain⟨v0,h0,q261⟩:=C.kX (decide (za<0)) (.vs (aq r) r.length none) r (.inl rfl) okr nrr (jV (ib (b:=wB) ao okr nrr (n:=N) (by rw[vr,vl];omega)) ac);have ev:gV (decide (za<0)) (WV wB r)=za+zb:=by
    rw[vr,vl,vm];unfold gV ak;by_cases h:za<0 <;> by_cases h':zb<0 <;> simp[h,h']at hs ⊢ <;> omega
   rw[ev]at h0;refine⟨v0,h0,fun a0 a1 a5 a6 a7 a8 a9 lo wr=>?_⟩;have out:=fun hh=>h0.out (hh:=hh)
   unfold t253;by_cases h:za<0 <;> by_cases h':zb<0 <;> simp only[h,h',decide_true,decide_false]at hs q219a q219b q261
   all_goals first|(exfalso;revert hs;decide)|skip
   all_goals
   . cases h0;all_goals
     . repeat' first|apply abx|apply aa|apply abr|apply aaL|apply aef|apply acG|apply ba|apply cn|(apply acO;rfl)|(apply acM;rfl)|(apply ahS;rfl;rfl)|(apply adX;rfl;rfl;first|exact q219a _|exact q219b _|exact q286 _|exact q309 _|exact q261 _)|(apply aev;rfl;rfl;rfl)|(apply ahX;rfl;rfl;rfl)|(apply abA;rfl;rfl)|(apply abC;rfl;rfl)|(intro _;omega)|intro _
       all_goals try omega
       all_goals exact cV rfl rfl (out _)
 . obtain⟨g,hg⟩:∃g,g=bE (WV wB l-WV wB m):=⟨_,rfl⟩;have g0:g<0:=by rw[hg];unfold bE;split <;> omega
   rw[←hg]at q286;obtain⟨r,okr,nrr,vr,q309⟩:=C.DR y m x l hy hx okm okl nrm' nrl lm ll ac;obtain⟨v0,h0,q261⟩:=C.kX (decide (zb<0)) (.vs (aq r) r.length none) r (.inl rfl) okr nrr (jV (ib (b:=wB) ao okr nrr (n:=N) (by rw[vr,vm];omega)) ac);have ev:gV (decide (zb<0)) (WV wB r)=za+zb:=by
    rw[vr,vl,vm];unfold gV ak;by_cases h:za<0 <;> by_cases h':zb<0 <;> simp[h,h']at hs ⊢ <;> omega
   rw[ev]at h0;refine⟨v0,h0,fun a0 a1 a5 a6 a7 a8 a9 lo wr=>?_⟩;have out:=fun hh=>h0.out (hh:=hh)
   unfold t253;by_cases h:za<0 <;> by_cases h':zb<0 <;> simp only[h,h',decide_true,decide_false]at hs q219a q219b q261
   all_goals first|(exfalso;revert hs;decide)|skip
   all_goals
   . cases h0;all_goals
     . repeat' first|apply abx|apply aa|apply abr|apply aaL|apply aef|apply acG|apply adA|apply bC|(apply acM;rfl)|(apply ahS;rfl;rfl)|(apply adX;rfl;rfl;first|exact q219a _|exact q219b _|exact q286 _|exact q309 _|exact q261 _)|(apply aev;rfl;rfl;rfl)|(apply ahX;rfl;rfl;rfl)|(apply abA;rfl;rfl)|(apply abC;rfl;rfl)|(intro _;omega)|intro _
       all_goals try omega
       all_goals exact cV rfl rfl (out _)
theorem Xd {x:Int}(h:9223372036854775808<=x/\x<18446744073709551616):IntKind.i64.wrap x=x-18446744073709551616:=by
 simp only[IntKind.wrap,IntKind.bits,IntKind.signed];simp;omega
theorem Xe {x:Int}(h : -18446744073709551616<=x/\x < -9223372036854775808):IntKind.i64.wrap x=x+18446744073709551616:=by
 simp only[IntKind.wrap,IntKind.bits,IntKind.signed];simp;omega
theorem ajL {t:Nat}{x y:aZ}{l:List bz}{pe:List AV}{lo:List (Nat×AV)}{hp:ab}{df wr:List Nat}{a b v:Int}{Q:au->Prop}(hx:(St.mk pe lo hp df).ae x=some (.iV a))(hy:(St.mk pe lo hp df).ae y=some (.iV b))(hv:IntKind.i64.wrap (a+b)=v)
 (h:WO M l ⟨⟨pe,(t,.iV v)::lo,hp,df⟩,wr⟩ Q):WO M (⟨.l t,.bin .add x y,none⟩::l) ⟨⟨pe,lo,hp,df⟩,wr⟩ Q:=
 abA (v:=.iV v) (by simp[bF,hx,hy,dS,hv]) rfl h
theorem dH {f n:Nat}{aY:List Nat}{res:List fO}{body:al}{ars:List AV}{v0:AV}(hft:M.FT f=some ⟨n,aY,res,body⟩)(hN:ars.length<=n)
 (h:W M body ⟨⟨aY.map (fun t=>(ars[t]?).getD cM),[],[],[]⟩,[]⟩ (mK v0 res)):dD M f ars v0:=kV hft hN h
theorem Xg (C:CI M N){a b:AV}{za zb:Int}(ha:aV a za)(hb:aV b zb)(lza:ak za<wB^N)(lzb:ak zb<wB^N):∃v0,aV v0 (za+zb)/\dD M 253 [a,b] v0:=by
 by_cases hsm:(∃s s',a = .agg [.iV s,.ah]/\b = .agg [.iV s',.ah])/\(-9223372036854775808<=za+zb/\za+zb<9223372036854775808)
 . obtain⟨⟨s,s',rfl,rfl⟩,hr⟩:=hsm;cases ha with
   | small h=>
   cases hb with
   | small h'=>
   refine⟨.agg [.iV (za+zb),.ah],.small hr,?_⟩;refine dH (by rw[C.ft];exact tw) ax ?_;unfold rk;simp only[enter];repeat' first|apply abx|apply aa|apply abr|apply aaL|apply acG|apply ba|(apply acO;rfl)|(apply afg;rfl)|(apply aeq;rfl;rfl)|(apply aeB;rfl;rfl)|(apply aeX;rfl;rfl;omega)|(apply aik;rfl;rfl;exact⟨rfl,by first|exact bA _|decide|(simp[overwrite]),rfl⟩;rfl)|(apply aie;rfl;(first|(focus((repeat' first|exact cj|assumption|apply cB);done))|exact cQ ax);rfl)|(apply aes;rfl;rfl;rfl)|(apply abA;rfl;rfl)|(apply abC;rfl;rfl)|(intro _;omega)|intro _
   all_goals try omega
   all_goals exact cV rfl rfl (.same rfl rfl)
 . have main:∀{s s':Int} {wa wb:AV},a = .agg [.iV s,wa]->b = .agg [.iV s',wb]->∃v0,aV v0 (za+zb)/\∀a0 a1 a5 a6 a7 a8 a9 lo wr,W M t253 ⟨⟨[a0,a1,.ptr 0 0,.ptr 1 0,.ptr 2 0,a5,a6,a7,a8,a9],lo,[some (.cells [.iV s,wa] 171),some (.cells [.iV s',wb] 171),some (.cells [.iV 0,.ah] 171)],[]⟩,wr⟩ (mK v0 [.cell 2 true (.p 4)]):=
    fun e1 e2=>Xc C (e1 ▸ ha) (e2 ▸ hb) lza lzb
   cases ha with
   | small h=>
    cases hb with
    | small h'=>
     have hne:¬(-9223372036854775808<=za+zb/\za+zb<9223372036854775808):=fun hr=>hsm ⟨⟨_,_,rfl,rfl⟩,hr⟩
     obtain⟨v0,h0,tl⟩:=main rfl rfl;refine⟨v0,h0,dH (by rw[C.ft];exact tw) ax ?_⟩;obtain⟨c,hc,hc2⟩:∃c,IntKind.i64.wrap (za+zb)=c/\(c=za+zb-18446744073709551616/\9223372036854775808<=za+zb\/c=za+zb+18446744073709551616/\za+zb < -9223372036854775808):=by
      rcases dg (za+zb) 0 with h1|h1
      . exact⟨_,Xe ac,.inr ⟨rfl,ac⟩⟩
      . exact⟨_,Xd ac,.inl ⟨rfl,ac⟩⟩
     unfold rk;simp only[enter];repeat' first|(exact tl _ _ _ _ _ _ _ _ _)|(apply ajL;rfl;rfl;exact hc)|apply abx|apply aa|apply abr|apply aaL|apply adA|(apply acO;rfl)|(apply acM;rfl)|(apply afg;rfl)|(apply aeq;rfl;rfl)|(apply aeB;rfl;rfl)|(apply aie;rfl;(first|(focus((repeat' first|exact cj|assumption|apply cB);done))|exact cQ ax);rfl)|(apply aes;rfl;rfl;rfl)|(apply abA;rfl;rfl)|(apply abC;rfl;rfl)|(intro _;omega)|intro _
     all_goals try omega
    | @gn σ z w hs ok nr hw hz=>
     cases w with
     | nil=>simp[WV]at hw
     | cons y w=>
     obtain⟨v0,h0,tl⟩:=main rfl rfl;refine⟨v0,h0,dH (by rw[C.ft];exact tw) ax ?_⟩;unfold rk;simp only[enter];repeat' first|(exact tl _ _ _ _ _ _ _ _ _)|apply abx|apply aa|apply abr|apply aaL|apply adA|(apply acM;rfl)|(apply afg;rfl)|(apply aeB;rfl;rfl)|(apply aie;rfl;(first|(focus((repeat' first|exact cj|assumption|apply cB);done))|exact cQ ax);rfl)|(apply aes;rfl;rfl;rfl)|(apply abA;rfl;rfl)
     all_goals try omega
   | @gn σ z w hs ok nr hw hz=>
    cases w with
    | nil=>simp[WV]at hw
    | cons y w=>
    cases hb with
    | small h'=>
     obtain⟨v0,h0,tl⟩:=main rfl rfl;refine⟨v0,h0,dH (by rw[C.ft];exact tw) ax ?_⟩;unfold rk;simp only[enter];repeat' first|(exact tl _ _ _ _ _ _ _ _ _)|apply abx|apply aa|apply abr|apply aaL|apply adA|(apply acM;rfl)|(apply ahU;rfl)|(apply aeC;rfl;rfl)|(apply aie;rfl;(first|(focus((repeat' first|exact cj|assumption|apply cB);done))|exact cQ ax);rfl)|(apply aes;rfl;rfl;rfl)|(apply abA;rfl;rfl)
     all_goals try omega
    | @gn σ' z' w' hs' ok' nr' hw' hz'=>
     cases w' with
     | nil=>simp[WV]at hw'
     | cons y' w'=>
     obtain⟨v0,h0,tl⟩:=main rfl rfl;refine⟨v0,h0,dH (by rw[C.ft];exact tw) ax ?_⟩;unfold rk;simp only[enter];repeat' first|(exact tl _ _ _ _ _ _ _ _ _)|apply abx|apply aa|apply abr|apply aaL|apply adA|(apply acM;rfl)|(apply ahU;rfl)|(apply aeC;rfl;rfl)|(apply aie;rfl;(first|(focus((repeat' first|exact cj|assumption|apply cB);done))|exact cQ ax);rfl)|(apply aes;rfl;rfl;rfl)|(apply abA;rfl;rfl)
     all_goals try omega
def DS (M:ay)(N g:Nat)(f:Int->Int):Prop:=∀v z,aV v z->ak z<wB^N->∃v0,aV v0 (f z)/\∀h,M.ext g [v] h=some ⟨v0,h,[]⟩
def xB (M:ay)(N g:Nat)(f:Int->Int->Int):Prop:=∀a b x y,aV a x->aV b y->ak x<wB^N->ak y<wB^N->∃v0,aV v0 (f x y)/\∀h,M.ext g [a,b] h=some ⟨v0,h,[]⟩
structure DT (M:ay)(N:Nat):Prop extends CI M N where
 mL:DS M N 201 (fun z=>-z)
 xC:xB M N 253 (· + ·)
structure CJ (M:ay)(N:Nat):Prop extends DT M N where
 DU:xB M N 263 (· - ·)
 nK:∀v z,aV v z->∀h,M.ext 230 [v] h=some ⟨.iV (bE z),h,[]⟩
theorem kj {z:Int}:ak (-z)=ak z:=by unfold ak;split <;> split <;> omega
theorem Xh (C:DT M N){a b:AV}{x y:Int}(ha:aV a x)(hb:aV b y)(lx:ak x<wB^N)(ly:ak y<wB^N):∃v0,aV v0 (x-y)/\dD M 263 [a,b] v0:=by
 obtain⟨v1,h1,q201⟩:=C.mL b y hb ly;obtain⟨v0,h0,q253⟩:=C.xC a v1 x (-y) ha h1 lx (by rw[kj];exact ly);have h0:aV v0 (x-y):=by rw[Int.sub_eq_add_neg];exact h0
 refine⟨v0,h0,dH (by rw[C.ft];exact WU) ax ?_⟩;have out:=fun hh=>h0.out (hh:=hh)
 unfold Ki;simp only[enter];cases ha;all_goals
 . cases hb;all_goals
   . cases h0;all_goals
     . repeat' first|(apply ahR;rfl;rfl;(first|(simp only[nca];rfl)|rfl);first|exact q201 _|exact q253 _)|(apply aik;rfl;rfl;exact⟨rfl,by first|exact bA _|decide|(simp[overwrite]),rfl⟩;rfl)|(apply aie;rfl;(first|(focus((repeat' first|exact cj|assumption|apply cB);done))|exact cQ ax);rfl)|apply abx|apply aa|apply abr|apply aaL|apply acG|apply afU|apply agy|(apply ahb;rfl;rfl;(first|(simp only[nca];rfl)|rfl))|(apply ahY;rfl;(first|(simp only[nca];rfl)|rfl);(first|(simp only[nca];rfl)|rfl))|(apply aes;rfl;rfl;rfl)
       all_goals exact cV rfl rfl (out _)
theorem Xi (C:CJ M N){v:AV}{z:Int}(hv:aV v z)(lz:ak z<wB^N):∃v0,aV v0 (ak z)/\dD M 298 [v] v0:=by
 by_cases hn:z<0
 . obtain⟨v0,h0,q201⟩:=C.mL v z hv lz;have h0:aV v0 (ak z):=by rw[show ak z = -z from if_pos hn];exact h0
   refine⟨v0,h0,dH (by rw[C.ft];exact Kh) ax ?_⟩;have out:=fun hh=>h0.out (hh:=hh)
   unfold DO;simp only[enter];cases hv with
   | small h=>
    cases h0;all_goals
    . repeat' first|apply abx|apply aa|apply abr|apply aaL|apply acG|apply ba|(apply acO;rfl)|(apply aep;rfl;rfl)|(apply adX;rfl;rfl;first|exact q201 _)|(apply aik;rfl;rfl;exact⟨rfl,by first|exact bA _|decide|(simp[overwrite]),rfl⟩;rfl)|(apply aie;rfl;(first|(focus((repeat' first|exact cj|assumption|apply cB);done))|exact cQ ax);rfl)|(apply aes;rfl;rfl;rfl)|(apply abA;rfl;rfl)|(intro _;omega)|intro _
      all_goals try omega
      all_goals exact cV rfl rfl (out _)
   | @gn σ z w hs ok nr hw hz=>
    have e:σ<0:=by rcases hs with rfl|rfl <;> omega
    cases h0;all_goals
    . repeat' first|apply abx|apply aa|apply abr|apply aaL|apply acG|apply ba|(apply acO;rfl)|(apply aep;rfl;rfl)|(apply adX;rfl;rfl;first|exact q201 _)|(apply aik;rfl;rfl;exact⟨rfl,by first|exact bA _|decide|(simp[overwrite]),rfl⟩;rfl)|(apply aie;rfl;(first|(focus((repeat' first|exact cj|assumption|apply cB);done))|exact cQ ax);rfl)|(apply aes;rfl;rfl;rfl)|(apply abA;rfl;rfl)|(intro _;omega)|intro _
      all_goals try omega
      all_goals exact cV rfl rfl (out _)
 . have e:ak z=z:=if_neg hn;rw[e];refine⟨v,hv,dH (by rw[C.ft];exact Kh) ax ?_⟩;have out:=fun hh=>hv.out (hh:=hh)
   unfold DO;simp only[enter];cases hv with
   | small h=>
    repeat' first|apply abx|apply aa|apply abr|apply aaL|apply acG|apply adA|(apply acM;rfl)|(apply aep;rfl;rfl)|(apply aik;rfl;rfl;exact⟨rfl,by first|exact bA _|decide|(simp[overwrite]),rfl⟩;rfl)|(apply aie;rfl;(first|(focus((repeat' first|exact cj|assumption|apply cB);done))|exact cQ ax);rfl)|(apply aes;rfl;rfl;rfl)|(apply abA;rfl;rfl)|(intro _;omega)|intro _
    all_goals try omega
    all_goals exact cV rfl rfl (out _)
   | @gn σ z w hs ok nr hw hz=>
    have e:¬σ<0:=by rcases hs with rfl|rfl <;> omega
    repeat' first|apply abx|apply aa|apply abr|apply aaL|apply acG|apply adA|(apply acM;rfl)|(apply aep;rfl;rfl)|(apply aik;rfl;rfl;exact⟨rfl,by first|exact bA _|decide|(simp[overwrite]),rfl⟩;rfl)|(apply aie;rfl;(first|(focus((repeat' first|exact cj|assumption|apply cB);done))|exact cQ ax);rfl)|(apply aes;rfl;rfl;rfl)|(apply abA;rfl;rfl)|(intro _;omega)|intro _
    all_goals try omega
    all_goals exact cV rfl rfl (out _)
theorem Kp {x y:Int}:bE (x-y)=if x<y then -1 else if y<x then 1 else 0:=by
 unfold bE;by_cases h:x<y
 . rw[if_pos h,if_pos ac]
 . rw[if_neg h,if_neg ac];by_cases h':y<x
   . rw[if_pos h',if_pos ac]
   . rw[if_neg h',if_neg ac]
theorem Xj (C:CJ M N){a b:AV}{x y:Int}(ha:aV a x)(hb:aV b y)(lx:ak x<wB^N)(ly:ak y<wB^N):dD M 200 [a,b] (.iV (bE (x-y))):=by
 obtain⟨v0,h0,q263⟩:=C.DU a b x y ha hb lx ly;have q230:=C.nK v0 (x-y) h0;refine dH (by rw[C.ft];exact WW) ax ?_;unfold Kj;simp only[enter];cases ha with
 | small h=>
  cases hb with
  | small h'=>
   by_cases h1:x<y
   . rw[Kp,if_pos h1];repeat' first|apply abx|apply aa|apply abr|apply aaL|apply aef|apply acG|apply ba|apply cn|(apply acO;rfl)|(apply afg;rfl)|(apply aep;rfl;rfl)|(apply aeB;rfl;rfl)|(apply aie;rfl;(first|(focus((repeat' first|exact cj|assumption|apply cB);done))|exact cQ ax);rfl)|(apply aes;rfl;rfl;rfl)|(apply abA;rfl;rfl)|(apply abC;rfl;rfl)|(intro _;omega)|intro _
     all_goals try omega
     all_goals exact cV rfl rfl (.same rfl rfl)
   . rw[Kp,if_neg h1];by_cases h2:y<x
     . rw[if_pos h2];repeat' first|apply abx|apply aa|apply abr|apply aaL|apply aef|apply acG|apply ba|apply cn|(apply acO;rfl)|(apply acM;rfl)|(apply afg;rfl)|(apply aep;rfl;rfl)|(apply aeq;rfl;rfl)|(apply aeB;rfl;rfl)|(apply aie;rfl;(first|(focus((repeat' first|exact cj|assumption|apply cB);done))|exact cQ ax);rfl)|(apply aes;rfl;rfl;rfl)|(apply abA;rfl;rfl)|(apply abC;rfl;rfl)|(intro _;omega)|intro _
       all_goals try omega
       all_goals exact cV rfl rfl (.same rfl rfl)
     . rw[if_neg h2];repeat' first|apply abx|apply aa|apply abr|apply aaL|apply aef|apply acG|apply adA|apply ba|apply bC|(apply acO;rfl)|(apply acM;rfl)|(apply afg;rfl)|(apply aep;rfl;rfl)|(apply aeq;rfl;rfl)|(apply aeB;rfl;rfl)|(apply aie;rfl;(first|(focus((repeat' first|exact cj|assumption|apply cB);done))|exact cQ ax);rfl)|(apply aes;rfl;rfl;rfl)|(apply abA;rfl;rfl)|(apply abC;rfl;rfl)|(intro _;omega)|intro _
       all_goals try omega
       all_goals exact cV rfl rfl (.same rfl rfl)
  | @gn σ z w hs ok nr hw hz=>
   cases w with
   | nil=>simp[WV]at hw
   | cons u w=>
   repeat' first|apply abx|apply aa|apply abr|apply aaL|apply acG|apply adA|(apply acM;rfl)|(apply afg;rfl)|(apply aeB;rfl;rfl)|(apply adX;rfl;rfl;first|exact q263 _|exact q230 _)|(apply aie;rfl;(first|(focus((repeat' first|exact cj|assumption|apply cB);done))|exact cQ ax);rfl)|(apply aes;rfl;rfl;rfl)|(apply abA;rfl;rfl)|(apply abC;rfl;rfl)
   all_goals exact cV rfl rfl (.same rfl rfl)
 | @gn σ z w hs ok nr hw hz=>
  cases w with
  | nil=>simp[WV]at hw
  | cons u w=>
  cases hb;all_goals
  . repeat' first|apply abx|apply aa|apply abr|apply aaL|apply acG|apply adA|(apply acM;rfl)|(apply ahU;rfl)|(apply aeC;rfl;rfl)|(apply adX;rfl;rfl;first|exact q263 _|exact q230 _)|(apply aie;rfl;(first|(focus((repeat' first|exact cj|assumption|apply cB);done))|exact cQ ax);rfl)|(apply aes;rfl;rfl;rfl)|(apply abA;rfl;rfl)|(apply abC;rfl;rfl)
    all_goals exact cV rfl rfl (.same rfl rfl)
theorem Xk (hft:M.FT=FT)(s:Int):dD M 196 [.iV s] (.agg [.iV s,.ah]):=by
 refine dH (by rw[hft];exact WX) ax ?_;unfold Kk;simp only[enter];repeat' first|apply abx|apply aa|apply abr|apply aaL|apply acG|(apply aik;rfl;rfl;exact⟨rfl,by first|exact bA _|decide|(simp[overwrite]),rfl⟩;rfl)|(apply aes;rfl;rfl;rfl)|(apply abA;rfl;rfl)
 exact cV rfl rfl (.same rfl rfl)
end Go.Ab.Ch5.N
