/-
  Own work: the resolved code of some functions of chapter 1.
-/
import Derived.Test.YtmngppcmhfhgaaaGreatDoorCh5Base
import Derived.Test.YtmngppcmhfhgaaaGreatDoorLib1
import Derived.Test.YtmngppcmhfhgaaaGreatDoorCh5Row
import Derived.Test.YtmngppcmhfhgaaaGreatDoorLib2
open Bool renaming true_or→ox
open Int renaming mul_le_mul_of_nonneg_left→aZ,mul_le_mul_of_nonneg_right→be,le_of_lt→bj,mul_assoc→b7,mul_comm→b8,pow_pos→cd,pow_succ→ce,mul_add→ci,mul_lt_mul_of_pos_right→cK,mul_zero→cN,ediv_lt_of_lt_mul→cV,mul_nonneg→c6,toNat_natCast→c8,lt_or_le→db,add_mul→dr,add_zero→d6,lt_of_mul_lt_mul_left→d7,ediv_nonneg→d8,pow_add→d9,one_mul→ff,lt_mul_ediv_self_add→fg,ediv_eq_zero_of_lt→fF,mul_ediv_add_emod→f6,sub_zero→gc,emod_lt_of_pos→gU,mul_sub→g9,eq_ofNat_of_zero_le→ib,mul_le_mul→ip,mul_one→iB,sub_mul→iK,lt_ediv_add_one_mul_self→i6,emod_nonneg→i7,lt_of_mul_lt_mul_right→i8,mul_right_comm→i9,mul_emod_left→jj,mul_ediv_mul_of_pos→jR,ediv_mul_le→j9,le_ediv_of_mul_le→kw,add_mul_ediv_left→kM,mul_ediv_self_le→lc,add_assoc→li,le_trans→m9,zero_add→ne,add_comm→nz,emod_eq_of_lt→nO
open List renaming length_set→az,take_of_length_le→aW,length_take→b5,getElem!_eq_getElem?_getD→b6,replicate→c5,append_assoc→dh,drop_eq_getElem_cons→dF,take_length→dU,take_append_drop→fM,length_cons→f8,getElem?_eq_getElem→gF,mem_singleton→gT,drop_zero→ii,eq_nil_of_length_eq_zero→i5,getElem?_append_left→ja,drop_length→jN,getElem?_set_ne→k9,take_succ_cons→le,mem_replicate→l9,set_cons_succ→mp,take_add_one→m7,cons_append→n3,length_drop→n4,drop_drop→n8,drop_left→n9
open Nat renaming le_refl→bc,min_eq_left→c7,zero_le→f7,le_trans→j0,lt_or_ge→m8,lt_succ_self→n5,log2_eq_iff→n7
open Option renaming toList_some→mn,isNone_none→m5,isSome_some→m6,map_some→n6
set_option maxHeartbeats 8000000
set_option maxRecDepth 20000
namespace Go.Ab.Ch5.N
set_option maxRecDepth 1000000
end Go.Ab.Ch5.N

/-
  Own work: plain facts of drawn orders: an exchange after the other gives an order of the same elements; its last place and the rest.
-/
namespace Go.Ab
end Go.Ab

/-
  Own work: mark.Draw, mark.outside, stadionref01.CheckDraw: what they compute.
-/
namespace Go.Ab.Ch5.N
open Go.Proofs.Tryz
variable {M:ax}
end Go.Ab.Ch5.N

/-
  Own work: contracts of chapter 1 as a table.
-/
namespace Go.Ab
open Go.ChangeShapes Go.WideShapes Go.RowKit
variable {P:Program} {gl:Nat->Option AV}
theorem iD {FT:FuncId->Option cU}{T:List (Nat×Spec)}:(bx P FT T).ext=bB T:=rfl
theorem HQ {FT:FuncId->Option cU}(hs:jK P gl FT){T:List (Nat×Spec)}(hT:cB P gl (bB T)){f:Nat}{xs:List AV}{w:World}(hr:bg (bx P FT T) f xs [] ⟨.bool true,[],[]⟩)
 (hgl:∀g v,gl g=some v->V bare w v (.pointer (some ⟨g,0,none⟩))) {as':List Value} (hv:VL bare w xs as'):Calls P f as'.toArray w fun e w'=>e = .returned (.bool true)/\Below w.heap.size w w':=by
 obtain⟨n,hn⟩:=hr;refine(GR hs.mix hT hs.ft hn hgl hv).mono fun e w' he=>?_
 obtain⟨v',h1,⟨ρ',h2⟩,h3⟩:=he;cases h2;exact⟨h1,GS h3⟩
end Go.Ab
namespace Go.Ab.Ch5.N
open Go.Proofs
set_option maxRecDepth 1000000
def HS:ao:=zR [zi 2 0] (.seq (zR [zm 5 0] (.cond (.l 5) (zR [zm 6 1,zw 2 6] (.ret)) (.skip))) (zR [zi 2 0] (.ret)))
theorem SL:FT 228=some ⟨7,[0,1,4],[.var (.p 2)],HS⟩:=by kernel_rfl
def uN:ao:=zR [zr 8 .lss 5 4] (.seq (.cond (.l 8) (.skip) (.exit 0)) (.seq (.block 1 (zR [⟨.l 9,.eL none 1 (.p 3) (.p 5),none⟩,zd 10 1 9,zw 2 10] (zR [zm 11 2,zc 12 .neq 11 0] (.cond (.l 12) (zR [zm 13 2,zw 1 13] (.ret)) (.skip))))) (.region [zq 14 .add 5 1,zw 5 14])))
def HT:ao:=zR [zi 1 0] (.seq (zR [⟨.p 3,.mv (.p 0),none⟩,⟨.p 4,.len .sl (.p 3),none⟩,zi 5 0] (.block 0 (.loop uN))) (zR [zi 1 0] (.ret)))
theorem SM:FT 227=some ⟨15,[0,2,4,5,6,7],[.var (.p 1)],HT⟩:=by kernel_rfl
def HU:ao:=zR [zi 2 0] (.seq (zR [zm 5 0] (.cond (.l 5) (zR [zm 6 1,zw 2 6] (.ret)) (.skip))) (zR [zi 2 0] (.ret)))
theorem SN:FT 20=some ⟨7,[0,1,4],[.var (.p 2)],HU⟩:=by kernel_rfl
def uO:ao:=.seq (zR [zm 4 2,zm 5 0,zl 6 5,zb 7 .lss 4 6] (.cond (.l 7) (.skip) (.exit 0))) (.seq (.block 1 (zR [zm 10 0,zm 11 2,za 12 1 10 11,zd 13 1 12,zc 14 .neq 13 0] (.cond (.l 14) (zR [zm 15 0,zm 16 2,za 17 1 15 16,zd 18 1 17,zw 1 18] (.ret)) (.skip)))) (.region [zm 8 2,zc 9 .add 8 1,zw 2 9]))
def HV:ao:=zR [zi 1 0] (.seq (zR [zi 2 0] (.block 0 (.loop uO))) (zR [zi 1 0] (.ret)))
theorem SO:FT 25=some ⟨19,[0,2,3],[.var (.p 1)],HV⟩:=by kernel_rfl
variable {inv:eW} {F:FuncId->Option cU}
abbrev pN (T:List (Nat×Spec))(inv:eW)(F:FuncId->Option cU):ax:=⟨bB T,inv,F⟩
def bK:List Int->Int
 | []=>0
 | e::r=>if e=0 then bK r else e
def jb:Spec:=fun
 | [.bool t,.int .i64 e],h=>some ⟨.int .i64 (if t then e else 0),h,[]⟩
 | _,_=>none
def jc:Spec:=fun
 | [v],h=>match gm h v with
   | some l=>if l.length<4611686018427387904 then some ⟨.int .i64 (bK l),h,[]⟩ else none
   | none=>none
 | _,_=>none
theorem SP {T:List (Nat×Spec)}(hft:F=FT)(t:Bool)(e:Int):bg (pN T inv F) 228 [.bool t,.int .i64 e] [] ⟨.int .i64 (if t then e else 0),[],[]⟩:=by
 refine bY (show F 228=_ from by rw[hft];exact SL) aq ?_;unfold HS;simp only[enter];cases t;all_goals
  repeat' first|apply aaQ|apply aa|apply aaf|apply aad|apply abw|apply abC|apply aU|(apply abz;rfl)|(apply abx;rfl)|(apply abh;rfl;rfl)|(apply abl;rfl;rfl)
 all_goals exact⟨.inr rfl,rfl,_,rfl,rfl,rfl⟩
theorem SR {T:List (Nat×Spec)}(hft:F=FT)(t:Bool)(e:Int):bg (pN T inv F) 20 [.bool t,.int .i64 e] [] ⟨.int .i64 (if t then e else 0),[],[]⟩:=by
 refine bY (show F 20=_ from by rw[hft];exact SN) aq ?_;unfold HU;simp only[enter];cases t;all_goals
  repeat' first|apply aaQ|apply aa|apply aaf|apply aad|apply abw|apply abC|apply aU|(apply abz;rfl)|(apply abx;rfl)|(apply abh;rfl;rfl)|(apply abl;rfl;rfl)
 all_goals exact⟨.inr rfl,rfl,_,rfl,rfl,rfl⟩
theorem uP {l:List Int}{i:Nat}(h:i<l.length):bK (l.drop i)=if l[i]! = 0 then bK (l.drop (i+1)) else l[i]! := by
 rw[dF h,getElem!_pos l i h,bK]
theorem HW {T:List (Nat×Spec)}(l:List Int)(cap:Option Nat)(a0:AV)(hl:l.length<4611686018427387904)(hp:ae)(df:List Nat){Q:Ex->au->Prop}:∀(r i:Nat),i+r=l.length->∀(a1 a2:AV) (lo:List (Nat×AV)) (wr:List Nat),
 (bK (l.drop i)=0->∀a2 lo wr,Q (.exit 0) ⟨⟨[a0,a1,a2,.vs (ints l) l.length cap,.int .i64 l.length,.int .i64 l.length],lo,hp,df⟩,wr⟩) ->
 (∀a2 a5 lo wr,Q .ret ⟨⟨[a0,.int .i64 (bK (l.drop i)),a2,.vs (ints l) l.length cap,.int .i64 l.length,a5],lo,hp,df⟩,wr⟩) ->
 W (pN T inv F) (.loop uN) ⟨⟨[a0,a1,a2,.vs (ints l) l.length cap,.int .i64 l.length,.int .i64 i],lo,hp,df⟩,wr⟩ Q
 | 0,i,hi,a1,a2,lo,wr,h1,h2=>by
  obtain rfl:i=l.length:=by omega
  refine W.loop ?_;unfold uN;repeat' first|apply aaQ|apply aa|apply aaf|apply aad|apply acH|apply bN|apply dP|(apply abx;rfl)|(apply abR;rfl;rfl)|(intro _;omega)|intro _
  exact h1 (by simp[bK]) _ _ _
 | r+1,i,hi,a1,a2,lo,wr,h1,h2=>by
  have e:=uP (l:=l) (i:=(i:Int).toNat) ac;rw[c8]at e;refine W.loop ?_;unfold uN;repeat' first|apply aaQ|apply aa|apply aaf|apply aad|apply abI|apply abw|apply abC|apply aU|apply bE|apply cQ|apply jJ|(apply abz;rfl)|(apply abx;rfl)|(apply abR;rfl;rfl)|(apply adf;rfl;rfl)|(apply acS;rfl;rfl;omega)|(apply adp;rfl;rfl;omega)|(apply adL;rfl;exact fun _=>rfl;(first|omega|(simp only[az];omega)|(simp;omega));decide;rfl;case ia=>infer_instance)|(apply abh;rfl;rfl)|(apply abl;rfl;rfl)|(intro _;omega)|intro _
  . rename_i hne;rw[c8]at hne;rw[if_neg hne]at e;rw[e]at h2;exact h2 _ _ _ _
  . rename_i he;rw[c8]at he;rw[if_pos he]at e;rw[e]at h1 h2;exact gk (HW l cap a0 hl hp df r (i+1) ac _ _ _ _ h1 h2)
theorem SS {T:List (Nat×Spec)}(hft:F=FT)(l:List Int)(cap:Option Nat)(hl:l.length<4611686018427387904):bg (pN T inv F) 227 [.vs (ints l) l.length cap] [] ⟨.int .i64 (bK l),[],[]⟩:=by
 refine bY (show F 227=_ from by rw[hft];exact SM) aq ?_;unfold HT;simp only[enter];repeat' first|apply aaQ|apply aa|apply aaf|apply aad|apply abI|(apply abl;rfl;rfl)
 refine HW l cap _ hl _ _ l.length 0 ac _ _ _ _ (fun h a2 lo wr=>?_) (fun a2 a5 lo wr=>?_)
 . repeat' first|apply aaQ|apply aa|apply aaf|apply aad|apply abw|apply bJ|(apply abl;rfl;rfl)
   exact⟨.inr rfl,rfl,_,rfl,by rw[ii]at h;rw[h];rfl,rfl⟩
 . repeat' first|apply aU|apply cQ
   exact⟨.inr rfl,rfl,_,rfl,rfl,rfl⟩
theorem HX {T:List (Nat×Spec)}(l:List Int)(cap:Option Nat)(hl:l.length<4611686018427387904)(hp:ae)(df:List Nat){Q:Ex->au->Prop}:∀(r i:Nat),i+r=l.length->∀(a1:AV) (lo:List (Nat×AV)) (wr:List Nat),
 (bK (l.drop i)=0->∀lo wr,Q (.exit 0) ⟨⟨[.vs (ints l) l.length cap,a1,.int .i64 l.length],lo,hp,df⟩,wr⟩) ->
 (∀a2 lo wr,Q .ret ⟨⟨[.vs (ints l) l.length cap,.int .i64 (bK (l.drop i)),a2],lo,hp,df⟩,wr⟩) ->
 W (pN T inv F) (.loop uO) ⟨⟨[.vs (ints l) l.length cap,a1,.int .i64 i],lo,hp,df⟩,wr⟩ Q
 | 0,i,hi,a1,lo,wr,h1,h2=>by
  obtain rfl:i=l.length:=by omega
  refine W.loop ?_;unfold uO;repeat' first|apply aaQ|apply aa|apply aaf|apply aad|apply acH|apply bN|apply dP|(apply abx;rfl)|(apply abR;rfl;rfl)|(apply abh;rfl;rfl)|(intro _;omega)|intro _
  exact h1 (by simp[bK]) _ _
 | r+1,i,hi,a1,lo,wr,h1,h2=>by
  have e:=uP (l:=l) (i:=(i:Int).toNat) ac;rw[c8]at e;refine W.loop ?_;unfold uO;repeat' first|apply aaQ|apply aa|apply aaf|apply aad|apply abI|apply abw|apply abC|apply aU|apply bE|apply cQ|apply jJ|(apply abz;rfl)|(apply abx;rfl)|(apply abR;rfl;rfl)|(apply adf;rfl;rfl)|(apply acS;rfl;rfl;omega)|(apply adp;rfl;rfl;omega)|(apply adL;rfl;exact fun _=>rfl;(first|omega|(simp only[az];omega)|(simp;omega));decide;rfl;case ia=>infer_instance)|(apply abh;rfl;rfl)|(apply abl;rfl;rfl)|(intro _;omega)|intro _
  . rename_i hne;rw[c8]at hne;rw[if_neg hne]at e;rw[e]at h2;exact h2 _ _ _
  . rename_i he;rw[c8]at he;rw[if_pos he]at e;rw[e]at h1 h2;exact gk (HX l cap hl hp df r (i+1) ac _ _ _ h1 h2)
theorem SU {T:List (Nat×Spec)}(hft:F=FT)(l:List Int)(cap:Option Nat)(hl:l.length<4611686018427387904):bg (pN T inv F) 25 [.vs (ints l) l.length cap] [] ⟨.int .i64 (bK l),[],[]⟩:=by
 refine bY (show F 25=_ from by rw[hft];exact SO) aq ?_;unfold HV;simp only[enter];repeat' first|apply aaQ|apply aa|apply aaf|apply aad|apply abI|(apply abl;rfl;rfl)
 refine HX l cap hl _ _ l.length 0 ac _ _ _ (fun h lo wr=>?_) (fun a2 lo wr=>?_)
 . repeat' first|apply aaQ|apply aa|apply aaf|apply aad|apply abw|apply bJ|(apply abl;rfl;rfl)
   exact⟨.inr rfl,rfl,_,rfl,by rw[ii]at h;rw[h];rfl,rfl⟩
 . repeat' first|apply aU|apply cQ
   exact⟨.inr rfl,rfl,_,rfl,rfl,rfl⟩
theorem SV:ba Tryz.prog gl 228 jb:=by
 intro xs h r hq;unfold jb at hq;split at hq
 . cases hq;exact uy nH bP (SP (T:=[]) rfl _ _) (gE.same rfl) rfl (.inl rfl)
 . cases hq
theorem SW:ba Tryz.prog gl 20 jb:=by
 intro xs h r hq;unfold jb at hq;split at hq
 . cases hq;exact uy nH bP (SR (T:=[]) rfl _ _) (gE.same rfl) rfl (.inl rfl)
 . cases hq
theorem BK {f:Nat}(hw:∀(l:List Int) cap,l.length<4611686018427387904->bg (bx Tryz.prog FT []) f [.vs (ints l) l.length cap] [] ⟨.int .i64 (bK l),[],[]⟩):ba Tryz.prog gl f jc:=by
 intro xs h r hq;unfold jc at hq;split at hq
 . split at hq
   . rename_i l hl;split at hq
     . rename_i hlen;cases hq;obtain⟨S,cap,hf⟩:=(QN hl).fr (fun _=>rfl);exact uy nH bP (hw l cap hlen) (.cons hf .nil) rfl (.inr rfl)
     . cases hq
   . cases hq
 . cases hq
theorem SX:ba Tryz.prog gl 227 jc:=BK fun l cap h=>SS (T:=[]) rfl l cap h
theorem SY:ba Tryz.prog gl 25 jc:=BK fun l cap h=>SU (T:=[]) rfl l cap h
def uQ:ao:=.seq (zR [zm 6 2,zc 7 .gtr 6 0,zn 8 7,zg (zm 9 0) 8 true,zg (zm 10 2) 8 true,zg (zc 11 .sub 10 1) 8 true,zg (za 12 1 9 11) 8 true,zg (zd 13 1 12) 8 true,⟨.l 14,.bin .eql (.l 13) (kU 0),some ((.l 8),true)⟩,zp 15 8 14] (.cond (.l 15) (.skip) (.exit 0))) (.block 1 (.region [zm 16 2,zc 17 .sub 16 1,zw 2 17]))
def HY:ao:=zR [⟨.p 1,.mv (.c (.ab)),none⟩] (zR [zm 4 0,zl 5 4,zw 2 5] (.seq (.block 0 (.loop uQ)) (zR [zm 18 0,zm 19 2,⟨.l 20,.slice .sl 1 (.l 18) none (some (.l 19)) none,none⟩,zw 1 20] (.ret))))
theorem SZ:FT 288=some ⟨21,[0,2,3],[.var (.p 1)],HY⟩:=by kernel_rfl
def uR:ao:=.seq (zR [zm 19 3,zc 20 .geq 19 0] (.cond (.l 20) (.skip) (.exit 0))) (.seq (.block 1 (.seq (.draw [(zm 23 0,[]),(zm 24 3,[0]),(za 25 1 23 24,[]),(zd 26 1 25,[]),(zm 27 1,[0,1,2,3]),(zm 28 3,[0,1,2,3,4]),(za 29 1 27 28,[0,1,2,3]),(zd 30 1 29,[0,1,2,3]),(zb 31 .neq 26 30,[])]) (.cond (.l 31) (.seq (.seq (.draw [(zm 32 0,[]),(zm 33 3,[0]),(za 34 1 32 33,[]),(zd 35 1 34,[]),(zm 36 1,[0,1,2,3]),(zm 37 3,[0,1,2,3,4]),(za 38 1 36 37,[0,1,2,3]),(zd 39 1 38,[0,1,2,3]),(zb 40 .lss 35 39,[])]) (.cond (.l 40) (zR [zi 2 (-1)] (.ret)) (.skip))) (zR [zi 2 1] (.ret))) (.skip)))) (.region [zm 21 3,zc 22 .sub 21 1,zw 3 22]))
def HZ:ao:=zR [zi 2 0] (.seq (zR [zm 6 0,zl 7 6,zm 8 1,zl 9 8,zb 10 .neq 7 9] (.cond (.l 10) (.seq (zR [zm 11 0,zl 12 11,zm 13 1,zl 14 13,zb 15 .lss 12 14] (.cond (.l 15) (zR [zi 2 (-1)] (.ret)) (.skip))) (zR [zi 2 1] (.ret))) (.skip))) (.seq (zR [zm 16 0,zl 17 16,zc 18 .sub 17 1,zw 3 18] (.block 0 (.loop uR))) (zR [zi 2 0] (.ret))))
theorem Ta:FT 286=some ⟨41,[0,1,4,5],[.var (.p 2)],HZ⟩:=by kernel_rfl
def uS:ao:=zR [zr 30 .lss 17 16] (.seq (.cond (.l 30) (.skip) (.exit 2)) (.seq (.block 3 (zR [zm 31 17,⟨.l 32,.eL none 1 (.p 15) (.p 17),none⟩,zd 33 1 32,zw 7 31,zw 8 33] (zR [zm 35 5,zm 36 8,z2 37 259 35 36,zn 34 37,ze 38 0 34,ze 39 1 34,zw 9 38,zw 10 39] (zR [⟨.p 11,.mv (kU 0),none⟩] (zR [zm 41 10,zm 42 3,zm 43 4,zm 44 7,zb 45 .add 43 44,za 46 1 42 45,zd 47 1 46,⟨.l 48,.call (kF 310) [(.l 41),(.l 47),(kU 0)],none⟩,zn 40 48,ze 49 0 40,ze 50 1 40,zw 10 49,zw 11 50] (zR [zm 51 9,zm 52 11,zb 53 .add 51 52,zw 9 53] (zR [zm 55 10,zm 56 6,⟨.l 57,.call (kF 310) [(.l 55),(.l 56),(kU 0)],none⟩,zn 54 57,ze 58 0 54,ze 59 1 54,zw 10 58,zw 11 59] (.region [zm 60 3,zm 61 4,zm 62 7,zb 63 .add 61 62,zm 64 10,zm 65 9,zm 66 11,zb 67 .add 65 66,za 68 1 60 63,zS 1 68 64,zw 6 67])))))))) (.region [zq 69 .add 17 1,zw 17 69])))
def BL:ao:=zR [zr 23 .lss 14 13] (.seq (.cond (.l 23) (.skip) (.exit 0)) (.seq (.block 1 (zR [zm 24 14,⟨.l 25,.eL none 1 (.p 12) (.p 14),none⟩,zd 26 1 25,zw 4 24,zw 5 26] (zR [⟨.p 6,.mv (kU 0),none⟩] (.seq (zR [⟨.p 15,.mv (.p 1),none⟩,⟨.p 16,.len .sl (.p 15),none⟩,zi 17 0] (.block 2 (.loop uS))) (.region [zm 70 3,zm 71 4,zm 72 1,zl 73 72,zb 74 .add 71 73,zm 75 6,za 76 1 70 74,zS 1 76 75]))))) (.region [zq 77 .add 14 1,zw 14 77])))
def Ia:ao:=zR [⟨.p 2,.mv (.c (.ab)),none⟩] (zR [zm 14 0,zl 15 14,zm 16 1,zl 17 16,zb 18 .add 15 17,⟨.l 19,.gM 274 1 8 [.uV (0)] (.l 18) (.l 18),none⟩,zw 3 19] (.seq (zR [⟨.p 12,.mv (.p 0),none⟩,⟨.p 13,.len .sl (.p 12),none⟩,zi 14 0] (.block 0 (.loop BL))) (zR [zm 78 3,z1 79 288 78,zw 2 79] (.ret))))
theorem Tb:FT 262=some ⟨80,[0,1,4,5,6,7,8,9,10,11,12,13,20,21,22,27,28,29],[.var (.p 2)],Ia⟩:=by kernel_rfl
def BM:ao:=zR [zr 15 .lss 8 7] (.seq (.cond (.l 15) (.skip) (.exit 0)) (.seq (.block 1 (zR [zm 16 8,⟨.l 17,.eL none 1 (.p 6) (.p 8),none⟩,zd 18 1 17,zw 4 16,zw 5 18] (.seq (.draw [(zm 19 3,[]),(zm 20 4,[0]),(za 21 1 19 20,[]),(zd 22 1 21,[]),(zm 23 5,[0,1,2,3]),(zm 24 1,[0,1,2,3,4]),(zb 25 .shl 23 24,[0,1,2,3]),(zb 26 .or 22 25,[]),(za 27 1 19 20,[]),(zS 1 27 26,[])]) (zR [zm 28 1,zc 29 .gtr 28 0] (.cond (.l 29) (.region [zm 30 3,zm 31 4,zc 32 .add 31 1,zm 33 5,zm 34 1,⟨.l 35,.bin .sub (kI 64) (.l 34),none⟩,zb 36 .shr 33 35,za 37 1 30 32,zS 1 37 36]) (.skip)))))) (.region [zq 38 .add 8 1,zw 8 38])))
def Ib:ao:=zR [⟨.p 2,.mv (.c (.ab)),none⟩] (zR [zm 8 0,zl 9 8,zc 10 .add 9 1,⟨.l 11,.gM 274 1 8 [.uV (0)] (.l 10) (.l 10),none⟩,zw 3 11] (.seq (zR [⟨.p 6,.mv (.p 0),none⟩,⟨.p 7,.len .sl (.p 6),none⟩,zi 8 0] (.block 0 (.loop BM))) (zR [zm 39 3,zw 2 39] (.ret))))
theorem Tc:FT 290=some ⟨40,[0,1,4,5,6,7,12,13,14],[.var (.p 2)],Ib⟩:=by kernel_rfl
def uT:ao:=.seq (zR [zm 30 6,zc 31 .geq 30 0] (.cond (.l 31) (.skip) (.exit 0))) (.seq (.block 1 (.draw [(zm 35 4,[]),(zm 36 6,[0]),(zm 37 5,[0,1]),(zm 38 0,[0,1,2]),(zm 39 6,[0,1,2,3]),(za 40 1 38 39,[0,1,2]),(zd 41 1 40,[0,1,2]),(zm 42 1,[0,1,2,3,4,5,6]),(⟨.l 43,.eL none 1 (.l 42) (kI 0),none⟩,[0,1,2,3,4,5,6]),(zd 44 1 43,[0,1,2,3,4,5,6]),(⟨.l 45,.call (kF 287) [(.l 37),(.l 41),(.l 44)],none⟩,[0,1]),(zn 34 45,[0,1]),(ze 46 0 34,[0,1]),(ze 47 1 34,[0,1,12]),(za 48 1 35 36,[13]),(zS 1 48 46,[13]),(zw 5 47,[])])) (.region [zm 32 6,zc 33 .sub 32 1,zw 6 33]))
def uU:ao:=.seq (zR [zm 80 12,zc 81 .geq 80 0] (.cond (.l 81) (.skip) (.exit 2))) (.seq (.block 3 (.region [zm 84 11,zm 85 12,zm 86 9,zm 87 12,zm 88 12,zm 89 10,zb 90 .add 88 89,zc 91 .add 90 1,⟨.l 92,.slice .sl 1 (.l 86) (some (.l 87)) (some (.l 91)) none,none⟩,zm 93 8,z2 94 291 92 93,za 95 1 84 85,zS 1 95 94])) (.region [zm 82 12,zc 83 .sub 82 1,zw 12 83]))
def uW:ao:=zR [zr 98 .lss 15 14] (.seq (.cond (.l 98) (.skip) (.exit 4)) (.seq (.block 5 (zR [zm 99 15,zw 13 99] (zR [zm 100 9,zm 101 13,za 102 1 100 101,zd 103 1 102,zm 104 7,zb 105 .shr 103 104,za 106 1 100 101,zS 1 106 105] (zR [zm 107 7,zc 108 .gtr 107 0,zn 109 108,zg (zm 110 13) 109 true,zg (zc 111 .add 110 1) 109 true,zg (zm 112 9) 109 true,zg (zl 113 112) 109 true,zg (zb 114 .lss 111 113) 109 true,zp 115 109 114] (.cond (.l 115) (.draw [(zm 116 9,[]),(zm 117 13,[0]),(za 118 1 116 117,[]),(zd 119 1 118,[]),(zm 120 9,[0,1,2,3]),(zm 121 13,[0,1,2,3,4]),(zc 122 .add 121 1,[0,1,2,3,4]),(za 123 1 120 122,[0,1,2,3]),(zd 124 1 123,[0,1,2,3]),(zm 125 7,[0,1,2,3,4,5,6,7,8]),(⟨.l 126,.bin .sub (kI 64) (.l 125),none⟩,[0,1,2,3,4,5,6,7,8]),(zb 127 .shl 124 126,[0,1,2,3]),(zb 128 .or 119 127,[]),(za 129 1 116 117,[]),(zS 1 129 128,[])]) (.skip)))))) (.region [zq 130 .add 15 1,zw 15 130])))
def BN:ao:=zR [⟨.p 2,.mv (.c (.ab)),none⟩,⟨.p 3,.mv (.c (.ab)),none⟩] (.seq (zR [zm 16 0,zm 17 1,z2 18 286 16 17,zc 19 .lss 18 0] (.cond (.l 19) (zR [zm 20 0,⟨.p 2,.mv (.c (.ab)),none⟩,zw 3 20] (.ret)) (.skip))) (.seq (zR [zm 21 1,zl 22 21,zc 23 .eql 22 1] (.cond (.l 23) (zR [zm 24 0,zl 25 24,⟨.l 26,.gM 274 1 8 [.uV (0)] (.l 25) (.l 25),none⟩,zw 4 26] (zR [⟨.p 5,.mv (kU 0),none⟩] (.seq (zR [zm 27 0,zl 28 27,zc 29 .sub 28 1,zw 6 29] (.block 0 (.loop uT))) (zR [zm 49 4,z1 50 288 49,zm 51 5,⟨.l 52,.dX 274 1 1 [.uV (0)] [(0,1,(.l 51))],none⟩,z1 53 288 52,zw 2 50,zw 3 53] (.ret))))) (.skip))) (zR [zm 54 1,zm 55 1,zl 56 55,zc 57 .sub 56 1,za 58 1 54 57,zd 59 1 58,z1 60 289 59,zw 7 60] (zR [zm 61 1,zm 62 7,z2 63 290 61 62,z1 64 288 63,zw 8 64] (zR [zm 65 0,zm 66 7,z2 67 290 65 66,zw 9 67] (zR [zm 68 8,zl 69 68,zw 10 69] (zR [zm 70 0,zl 71 70,zm 72 10,zb 73 .sub 71 72,zc 74 .add 73 1,⟨.l 75,.gM 274 1 8 [.uV (0)] (.l 74) (.l 74),none⟩,zw 11 75] (.seq (zR [zm 76 0,zl 77 76,zm 78 10,zb 79 .sub 77 78,zw 12 79] (.block 2 (.loop uU))) (.seq (zR [⟨.p 14,.mv (.p 10),none⟩,zi 15 0] (.block 4 (.loop uW))) (.seq (.draw [(zm 131 11,[]),(z1 132 288 131,[]),(zm 133 9,[0,1]),(zm 134 10,[0,1,2]),(⟨.l 135,.slice .sl 1 (.l 133) none (some (.l 134)) none,none⟩,[0,1]),(z1 136 288 135,[]),(zw 2 132,[]),(zw 3 136,[])]) (.ret)))))))))))
theorem Ic:FT 220=some ⟨137,[0,1,4,5,6,7,8,9,10,11,12,13,14,15,96,97],[.var (.p 2),.var (.p 3)],BN⟩:=by kernel_rfl
def BO:ao:=.seq (zR [zm 63 6,⟨.l 64,.bin .eql (.l 63) (kU 0),none⟩] (.cond (.l 64) (.skip) (.exit 0))) (.block 1 (zR [zm 66 4,zm 67 1,zm 68 3,zc 69 .sub 68 2,za 70 1 67 69,zd 71 1 70,z2 72 259 66 71,zn 65 72,ze 73 0 65,ze 74 1 65,zw 7 73,zw 8 74] (.seq (zR [zm 75 7,zm 76 5,zb 77 .lss 75 76,zn 78 77,zg (zm 79 7) 78 false,zg (zm 80 5) 78 false,zg (zb 81 .eql 79 80) 78 false,zg (zn 82 81) 78 false,zg (zm 83 8) 82 true,zg (zm 84 0) 82 true,zg (zm 85 3) 82 true,zg (zc 86 .sub 85 2) 82 true,zg (za 87 1 84 86) 82 true,zg (zd 88 1 87) 82 true,zg (zb 89 .leq 83 88) 82 true,zg (zp 90 82 89) 78 false,zP 91 78 90] (.cond (.l 91) (.exit 0) (.skip))) (zR [zm 92 4,⟨.l 93,.bin .sub (.l 92) (kU 1),none⟩,zw 4 93] (.region [zm 95 5,zm 96 1,zm 97 3,zc 98 .sub 97 1,za 99 1 96 98,zd 100 1 99,⟨.l 101,.call (kF 310) [(.l 95),(.l 100),(kU 0)],none⟩,zn 94 101,ze 102 0 94,ze 103 1 94,zw 5 102,zw 6 103])))))
def rG:ao:=zR [zr 106 .lss 18 17] (.seq (.cond (.l 106) (.skip) (.exit 2)) (.seq (.block 3 (zR [zm 107 18,zw 11 107] (zR [zm 109 4,zm 110 1,zm 111 11,za 112 1 110 111,zd 113 1 112,z2 114 259 109 113,zn 108 114,ze 115 0 108,ze 116 1 108,zw 12 115,zw 13 116] (zR [⟨.p 14,.mv (kU 0),none⟩] (zR [zm 118 13,zm 119 10,⟨.l 120,.call (kF 310) [(.l 118),(.l 119),(kU 0)],none⟩,zn 117 120,ze 121 0 117,ze 122 1 117,zw 13 121,zw 14 122] (zR [zm 123 12,zm 124 14,zb 125 .add 123 124,zw 10 125] (.region [zm 127 0,zm 128 11,zm 129 0,zm 130 11,za 131 1 129 130,zd 132 1 131,zm 133 13,zm 134 9,⟨.l 135,.call (kF 330) [(.l 132),(.l 133),(.l 134)],none⟩,zn 126 135,ze 136 0 126,ze 137 1 126,za 138 1 127 128,zS 1 138 136,zw 9 137]))))))) (.region [zq 139 .add 18 1,zw 18 139])))
def rH:ao:=zR [zr 158 .lss 20 19] (.seq (.cond (.l 158) (.skip) (.exit 4)) (.seq (.block 5 (zR [zm 159 20,zw 16 159] (.draw [(zm 161 0,[]),(zm 162 16,[0]),(zm 163 0,[0,1]),(zm 164 16,[0,1,2]),(za 165 1 163 164,[0,1]),(zd 166 1 165,[0,1]),(zm 167 1,[0,1,2,3,4,5]),(zm 168 16,[0,1,2,3,4,5,6]),(za 169 1 167 168,[0,1,2,3,4,5]),(zd 170 1 169,[0,1,2,3,4,5]),(zm 171 15,[0,1,2,3,4,5,6,7,8,9]),(⟨.l 172,.call (kF 310) [(.l 166),(.l 170),(.l 171)],none⟩,[0,1]),(zn 160 172,[0,1]),(ze 173 0 160,[0,1]),(ze 174 1 160,[0,1,13]),(za 175 1 161 162,[14]),(zS 1 175 173,[14]),(zw 15 174,[])]))) (.region [zq 176 .add 20 1,zw 20 176])))
def Ie:ao:=zR [⟨.p 2,.mv (kU 0),none⟩] (zR [zm 19 1,zl 20 19,zw 3 20] (zR [⟨.p 4,.mv (kU 0),none⟩,⟨.p 5,.mv (kU 0),none⟩] (zR [⟨.p 6,.mv (kU 0),none⟩] (.seq (.seq (.draw [(zm 21 0,[]),(zm 22 3,[0]),(za 23 1 21 22,[]),(zd 24 1 23,[]),(zm 25 1,[0,1,2,3]),(zm 26 3,[0,1,2,3,4]),(zc 27 .sub 26 1,[0,1,2,3,4]),(za 28 1 25 27,[0,1,2,3]),(zd 29 1 28,[0,1,2,3]),(zb 30 .geq 24 29,[])]) (.cond (.l 30) (zR [⟨.p 4,.mv (kU 18446744073709551615),none⟩] (.draw [(zm 32 0,[]),(zm 33 3,[0]),(zc 34 .sub 33 1,[0]),(za 35 1 32 34,[]),(zd 36 1 35,[]),(zm 37 1,[0,1,2,3,4]),(zm 38 3,[0,1,2,3,4,5]),(zc 39 .sub 38 1,[0,1,2,3,4,5]),(za 40 1 37 39,[0,1,2,3,4]),(zd 41 1 40,[0,1,2,3,4]),(⟨.l 42,.call (kF 310) [(.l 36),(.l 41),(kU 0)],none⟩,[]),(zn 31 42,[]),(ze 43 0 31,[]),(ze 44 1 31,[12]),(zw 5 43,[13]),(zw 6 44,[])])) (.draw [(zm 46 0,[]),(zm 47 3,[0]),(za 48 1 46 47,[]),(zd 49 1 48,[]),(zm 50 0,[0,1,2,3]),(zm 51 3,[0,1,2,3,4]),(zc 52 .sub 51 1,[0,1,2,3,4]),(za 53 1 50 52,[0,1,2,3]),(zd 54 1 53,[0,1,2,3]),(zm 55 1,[0,1,2,3,4,5,6,7,8]),(zm 56 3,[0,1,2,3,4,5,6,7,8,9]),(zc 57 .sub 56 1,[0,1,2,3,4,5,6,7,8,9]),(za 58 1 55 57,[0,1,2,3,4,5,6,7,8]),(zd 59 1 58,[0,1,2,3,4,5,6,7,8]),(⟨.l 60,.call (kF 287) [(.l 49),(.l 54),(.l 59)],none⟩,[]),(zn 45 60,[]),(ze 61 0 45,[]),(ze 62 1 45,[16]),(zw 4 61,[17]),(zw 5 62,[])]))) (.seq (.block 0 (.loop BO)) (zR [⟨.p 9,.mv (kU 0),none⟩,⟨.p 10,.mv (kU 0),none⟩] (.seq (zR [⟨.p 17,.mv (.p 3),none⟩,zi 18 0] (.block 2 (.loop rG))) (zR [zm 141 0,zm 142 3,zm 143 0,zm 144 3,za 145 1 143 144,zd 146 1 145,zm 147 10,zm 148 9,⟨.l 149,.call (kF 330) [(.l 146),(.l 147),(.l 148)],none⟩,zn 140 149,ze 150 0 140,ze 151 1 140,za 152 1 141 142,zS 1 152 150,zw 9 151] (.seq (zR [zm 153 9,⟨.l 154,.bin .eql (.l 153) (kU 0),none⟩] (.cond (.l 154) (zR [zm 155 4,zw 2 155] (.ret)) (.skip))) (zR [⟨.p 15,.mv (kU 0),none⟩] (.seq (zR [⟨.p 19,.mv (.p 3),none⟩,zi 20 0] (.block 4 (.loop rH))) (zR [zm 177 0,zm 178 3,za 179 1 177 178,zd 180 1 179,zm 181 15,zb 182 .add 180 181,za 183 1 177 178,zS 1 183 182] (zR [zm 184 4,⟨.l 185,.bin .sub (.l 184) (kU 1),none⟩,zw 2 185] (.ret))))))))))))))
theorem Td:FT 291=some ⟨186,[0,1,4,5,6,7,8,9,10,11,12,13,14,15,16,17,18,104,105,156,157],[.var (.p 2)],Ie⟩:=by kernel_rfl
def uX:ao:=zR [zr 23 .lss 8 7] (.seq (.cond (.l 23) (.skip) (.exit 0)) (.seq (.block 1 (zR [zm 24 8,zw 5 24] (zR [⟨.p 6,.mv (kU 0),none⟩] (.seq (zR [zm 25 5,zm 26 1,zl 27 26,zb 28 .lss 25 27] (.cond (.l 28) (.region [zm 29 1,zm 30 5,za 31 1 29 30,zd 32 1 31,zw 6 32]) (.skip))) (.region [zm 34 3,zm 35 5,zm 36 0,zm 37 5,za 38 1 36 37,zd 39 1 38,zm 40 6,zm 41 4,⟨.l 42,.call (kF 310) [(.l 39),(.l 40),(.l 41)],none⟩,zn 33 42,ze 43 0 33,ze 44 1 33,za 45 1 34 35,zS 1 45 43,zw 4 44]))))) (.region [zq 46 .add 8 1,zw 8 46])))
def Ig:ao:=zR [⟨.p 2,.mv (.c (.ab)),none⟩] (.seq (zR [zm 9 0,zl 10 9,zm 11 1,zl 12 11,zb 13 .lss 10 12] (.cond (.l 13) (.region [zm 14 1,zm 15 0,zw 0 14,zw 1 15]) (.skip))) (zR [zm 16 0,zl 17 16,zc 18 .add 17 1,⟨.l 19,.gM 274 1 8 [.uV (0)] (.l 18) (.l 18),none⟩,zw 3 19] (zR [⟨.p 4,.mv (kU 0),none⟩] (.seq (zR [zm 20 0,⟨.p 7,.len .sl (.l 20),none⟩,zi 8 0] (.block 0 (.loop uX))) (zR [zm 47 3,zm 48 0,zl 49 48,zm 50 4,za 51 1 47 49,zS 1 51 50] (zR [zm 52 3,z1 53 288 52,zw 2 53] (.ret)))))))
theorem Te:FT 308=some ⟨54,[0,1,4,5,6,7,8,21,22],[.var (.p 2)],Ig⟩:=by kernel_rfl
def uY:ao:=zR [zr 15 .lss 8 7] (.seq (.cond (.l 15) (.skip) (.exit 0)) (.seq (.block 1 (zR [zm 16 8,zw 5 16] (zR [⟨.p 6,.mv (kU 0),none⟩] (.seq (zR [zm 17 5,zm 18 1,zl 19 18,zb 20 .lss 17 19] (.cond (.l 20) (.region [zm 21 1,zm 22 5,za 23 1 21 22,zd 24 1 23,zw 6 24]) (.skip))) (.region [zm 26 3,zm 27 5,zm 28 0,zm 29 5,za 30 1 28 29,zd 31 1 30,zm 32 6,zm 33 4,⟨.l 34,.call (kF 330) [(.l 31),(.l 32),(.l 33)],none⟩,zn 25 34,ze 35 0 25,ze 36 1 25,za 37 1 26 27,zS 1 37 35,zw 4 36]))))) (.region [zq 38 .add 8 1,zw 8 38])))
def Ih:ao:=zR [⟨.p 2,.mv (.c (.ab)),none⟩] (zR [zm 9 0,zl 10 9,⟨.l 11,.gM 274 1 8 [.uV (0)] (.l 10) (.l 10),none⟩,zw 3 11] (zR [⟨.p 4,.mv (kU 0),none⟩] (.seq (zR [zm 12 0,⟨.p 7,.len .sl (.l 12),none⟩,zi 8 0] (.block 0 (.loop uY))) (zR [zm 39 3,z1 40 288 39,zw 2 40] (.ret)))))
theorem Tf:FT 309=some ⟨41,[0,1,4,5,6,7,8,13,14],[.var (.p 2)],Ih⟩:=by kernel_rfl
def Ii:ao:=zR [⟨.p 1,.mv (kU 0),none⟩] (.seq (zR [zm 3 0,zc 4 .lss 3 0] (.cond (.l 4) (zR [zm 5 0,⟨.l 6,.un .neg (.l 5),none⟩,⟨.l 7,.gW .u64 (.l 6),none⟩,zw 1 7] (.ret)) (.skip))) (zR [zm 8 0,⟨.l 9,.gW .u64 (.l 8),none⟩,zw 1 9] (.ret)))
theorem Tg:FT 260=some ⟨10,[0,2],[.var (.p 1)],Ii⟩:=by kernel_rfl
def uZ:ao:=zR [zx 1 171 2 0,⟨.p 2,.mv (.c (.bool false)),none⟩,⟨.p 3,.mv (.c (.ab)),none⟩] (.seq (.block 0 (zR [zf 5 1 1,zd 6 1 5,⟨.l 7,.eq true (.ref .slice) (.l 6) (.c (.ab)),none⟩,zn 4 7] (.cond (.l 4) (.seq (.draw [(zf 8 0 1,[]),(zd 9 1 8,[]),(zc 10 .lss 9 0,[]),(zf 11 1 1,[0,1,2]),(zd 12 1 11,[0,1,2]),(zw 2 10,[3,4]),(zw 3 12,[])]) (.ret)) (zR [zf 14 0 1,zd 15 1 14,zc 16 .eql 15 0,zn 13 16] (.cond (.l 13) (zR [⟨.p 2,.mv (.c (.bool false)),none⟩,⟨.p 3,.mv (.c (.ab)),none⟩] (.ret)) (.skip)))))) (.seq (.draw [(zf 17 0 1,[]),(zd 18 1 17,[]),(zc 19 .lss 18 0,[]),(zf 20 0 1,[0,1,2]),(zd 21 1 20,[0,1,2]),(z1 22 260 21,[0,1,2]),(⟨.l 23,.dX 274 1 1 [.uV (0)] [(0,1,(.l 22))],none⟩,[0,1,2]),(zw 2 19,[6]),(zw 3 23,[])]) (.ret)))
theorem BP:FT 219=some ⟨24,[0,1,2,3],[.var (.p 2),.var (.p 3)],uZ⟩:=by kernel_rfl
def pO:ao:=zR [⟨.p 2,.alloc 171 [.iV (0),.ab],none⟩] (.seq (.block 0 (zR [zm 6 1,zl 7 6,zc 8 .eql 7 0,zn 5 8] (.cond (.l 5) (zR [⟨.l 9,.build [.iV (0),.ab] [],none⟩,zs 2 2 9] (.ret)) (zR [zm 11 1,zl 12 11,zc 13 .eql 12 1,zn 14 13,zg (zm 15 1) 14 true,⟨.l 16,.eL none 1 (.l 15) (kI 0),some ((.l 14),true)⟩,zg (zd 17 1 16) 14 true,⟨.l 18,.bin .leq (.l 17) (kU 9223372036854775807),some ((.l 14),true)⟩,zp 19 14 18,zn 20 19,zg (zm 21 0) 20 true,zp 22 20 21,zn 10 22] (.cond (.l 10) (zR [zm 23 1,⟨.l 24,.eL none 1 (.l 23) (kI 0),none⟩,zd 25 1 24,⟨.l 26,.gW .i64 (.l 25),none⟩,⟨.l 27,.un .neg (.l 26),none⟩,⟨.l 28,.build [.iV (0),.ab] [(0,1,(.l 27))],none⟩,zs 2 2 28] (.ret)) (zR [zm 30 1,zl 31 30,zc 32 .eql 31 1,zn 33 32,zg (zm 34 1) 33 true,⟨.l 35,.eL none 1 (.l 34) (kI 0),some ((.l 33),true)⟩,zg (zd 36 1 35) 33 true,⟨.l 37,.bin .leq (.l 36) (kU 9223372036854775807),some ((.l 33),true)⟩,zp 38 33 37,zn 29 38] (.cond (.l 29) (zR [zm 39 1,⟨.l 40,.eL none 1 (.l 39) (kI 0),none⟩,zd 41 1 40,⟨.l 42,.gW .i64 (.l 41),none⟩,⟨.l 43,.build [.iV (0),.ab] [(0,1,(.l 42))],none⟩,zs 2 2 43] (.ret)) (zR [zm 45 0,zn 44 45] (.cond (.l 44) (zR [zm 46 1,⟨.l 47,.build [.iV (0),.ab] [(0,1,(kI (-1))),(1,1,(.l 46))],none⟩,zs 2 2 47] (.ret)) (.skip)))))))))) (zR [zm 48 1,⟨.l 49,.build [.iV (0),.ab] [(0,1,(kI 1)),(1,1,(.l 48))],none⟩,zs 2 2 49] (.ret)))
theorem rI:FT 261=some ⟨50,[0,1,4],[.cell 2 true (.p 2)],pO⟩:=by kernel_rfl
def Ij:ao:=zR [⟨.p 2,.mv (kU 0),none⟩,⟨.p 3,.mv (kU 0),none⟩] (zR [zm 14 0,⟨.l 15,.bin .and (.l 14) (kU 4294967295),none⟩,zw 4 15] (zR [zm 16 0,⟨.l 17,.bin .shr (.l 16) (kU 32),none⟩,zw 5 17] (zR [zm 18 1,⟨.l 19,.bin .and (.l 18) (kU 4294967295),none⟩,zw 6 19] (zR [zm 20 1,⟨.l 21,.bin .shr (.l 20) (kU 32),none⟩,zw 7 21] (zR [zm 22 4,zm 23 6,zb 24 .mul 22 23,zw 8 24] (zR [zm 25 5,zm 26 6,zb 27 .mul 25 26,zm 28 8,⟨.l 29,.bin .shr (.l 28) (kU 32),none⟩,zb 30 .add 27 29,zw 9 30] (zR [zm 31 9,⟨.l 32,.bin .and (.l 31) (kU 4294967295),none⟩,zw 10 32] (zR [zm 33 9,⟨.l 34,.bin .shr (.l 33) (kU 32),none⟩,zw 11 34] (zR [zm 35 10,zm 36 4,zm 37 7,zb 38 .mul 36 37,zb 39 .add 35 38,zw 10 39] (zR [zm 40 5,zm 41 7,zb 42 .mul 40 41,zm 43 11,zb 44 .add 42 43,zm 45 10,⟨.l 46,.bin .shr (.l 45) (kU 32),none⟩,zb 47 .add 44 46,zw 2 47] (zR [zm 48 0,zm 49 1,zb 50 .mul 48 49,zw 3 50] (.ret))))))))))))
theorem Th:FT 259=some ⟨51,[0,1,4,5,6,7,8,9,10,11,12,13],[.var (.p 2),.var (.p 3)],Ij⟩:=by kernel_rfl
def vc:ao:=.seq (zR [zm 67 12,⟨.l 68,.bin .geq (.l 67) (kU 4294967296),none⟩,zn 69 68,zg (zm 70 12) 69 false,zg (zm 71 7) 69 false,zg (zb 72 .mul 70 71) 69 false,zg (zm 73 13) 69 false,⟨.l 74,.bin .mul (kU 4294967296) (.l 73),some ((.l 69),false)⟩,zg (zm 75 10) 69 false,zg (zb 76 .add 74 75) 69 false,zg (zb 77 .gtr 72 76) 69 false,zP 78 69 77] (.cond (.l 78) (.skip) (.exit 0))) (.block 1 (zR [zm 79 12,⟨.l 80,.bin .sub (.l 79) (kU 1),none⟩,zw 12 80] (zR [zm 81 13,zm 82 6,zb 83 .add 81 82,zw 13 83] (zR [zm 84 13,⟨.l 85,.bin .geq (.l 84) (kU 4294967296),none⟩] (.cond (.l 85) (.exit 0) (.skip))))))
def vd:ao:=.seq (zR [zm 102 15,⟨.l 103,.bin .geq (.l 102) (kU 4294967296),none⟩,zn 104 103,zg (zm 105 15) 104 false,zg (zm 106 7) 104 false,zg (zb 107 .mul 105 106) 104 false,zg (zm 108 13) 104 false,⟨.l 109,.bin .mul (kU 4294967296) (.l 108),some ((.l 104),false)⟩,zg (zm 110 11) 104 false,zg (zb 111 .add 109 110) 104 false,zg (zb 112 .gtr 107 111) 104 false,zP 113 104 112] (.cond (.l 113) (.skip) (.exit 2))) (.block 3 (zR [zm 114 15,⟨.l 115,.bin .sub (.l 114) (kU 1),none⟩,zw 15 115] (zR [zm 116 13,zm 117 6,zb 118 .add 116 117,zw 13 118] (zR [zm 119 13,⟨.l 120,.bin .geq (.l 119) (kU 4294967296),none⟩] (.cond (.l 120) (.exit 2) (.skip))))))
def Ik:ao:=zR [⟨.p 3,.mv (kU 0),none⟩,⟨.p 4,.mv (kU 0),none⟩] (.seq (zR [zm 19 2,⟨.l 20,.bin .eql (.l 19) (kU 0),none⟩] (.cond (.l 20) (.bad) (.skip))) (.seq (zR [zm 22 2,zm 23 0,zb 24 .leq 22 23] (.cond (.l 24) (.bad) (.skip))) (.seq (zR [zm 26 0,⟨.l 27,.bin .eql (.l 26) (kU 0),none⟩] (.cond (.l 27) (.seq (.draw [(zm 28 1,[]),(zm 29 2,[0]),(zb 30 .quo 28 29,[]),(zm 31 1,[0,1,2]),(zm 32 2,[0,1,2,3]),(zb 33 .rem 31 32,[0,1,2]),(zw 3 30,[3,4,5]),(zw 4 33,[])]) (.ret)) (.skip))) (zR [zm 34 2,z1 35 289 34,⟨.l 36,.gW .u64 (.l 35),none⟩,zw 5 36] (zR [zm 37 2,zm 38 5,zb 39 .shl 37 38,zw 2 39] (zR [zm 40 2,⟨.l 41,.bin .shr (.l 40) (kU 32),none⟩,zw 6 41] (zR [zm 42 2,⟨.l 43,.bin .and (.l 42) (kU 4294967295),none⟩,zw 7 43] (zR [zm 44 0,zm 45 5,zb 46 .shl 44 45,zm 47 1,zm 48 5,⟨.l 49,.bin .sub (kU 64) (.l 48),none⟩,zb 50 .shr 47 49,zb 51 .or 46 50,zw 8 51] (zR [zm 52 1,zm 53 5,zb 54 .shl 52 53,zw 9 54] (zR [zm 55 9,⟨.l 56,.bin .shr (.l 55) (kU 32),none⟩,zw 10 56] (zR [zm 57 9,⟨.l 58,.bin .and (.l 57) (kU 4294967295),none⟩,zw 11 58] (zR [zm 59 8,zm 60 6,zb 61 .quo 59 60,zw 12 61] (zR [zm 62 8,zm 63 12,zm 64 6,zb 65 .mul 63 64,zb 66 .sub 62 65,zw 13 66] (.seq (.block 0 (.loop vc)) (zR [zm 86 8,⟨.l 87,.bin .mul (.l 86) (kU 4294967296),none⟩,zm 88 10,zb 89 .add 87 88,zm 90 12,zm 91 2,zb 92 .mul 90 91,zb 93 .sub 89 92,zw 14 93] (zR [zm 94 14,zm 95 6,zb 96 .quo 94 95,zw 15 96] (zR [zm 97 14,zm 98 15,zm 99 6,zb 100 .mul 98 99,zb 101 .sub 97 100,zw 13 101] (.seq (.block 2 (.loop vd)) (zR [zm 121 12,⟨.l 122,.bin .mul (.l 121) (kU 4294967296),none⟩,zm 123 15,zb 124 .add 122 123,zm 125 14,⟨.l 126,.bin .mul (.l 125) (kU 4294967296),none⟩,zm 127 11,zb 128 .add 126 127,zm 129 15,zm 130 2,zb 131 .mul 129 130,zb 132 .sub 128 131,zm 133 5,zb 134 .shr 132 133,zw 3 124,zw 4 134] (.ret))))))))))))))))))))
theorem Ti:FT 287=some ⟨135,[0,1,2,6,7,8,9,10,11,12,13,14,15,16,17,18],[.var (.p 3),.var (.p 4)],Ik⟩:=by kernel_rfl
def Il:ao:=zR [zi 1 0] (zR [zm 3 0,z1 4 252 3,⟨.l 5,.bin .sub (kI 64) (.l 4),none⟩,zw 1 5] (.ret))
theorem Tj:FT 289=some ⟨6,[0,2],[.var (.p 1)],Il⟩:=by kernel_rfl
end Go.Ab.Ch5.N

/-
  Own work: numbers by their digits to a base, the least significant one first: values, parts, changes of a digit, the length without zeros.
-/
namespace Go.Ab.aX
def WV (b:Int):List Int->Int
 | []=>0
 | x::l=>x+b*WV b l
def okW (b:Int)(l:List Int):Prop:=∀x∈l,0<=x/\x<b
theorem iI {b:Int}:okW b []:=fun x hx=>by cases hx
theorem Im {b x:Int}{l:List Int}(h:okW b (x::l)):(0<=x/\x<b)/\okW b l:=⟨h x aq,fun y hy=>h y (by simp[hy])⟩
theorem cj {b:Int}{l:List Int}(h:okW b l){i:Nat}(hi:i<l.length):0<=l[i]! /\ l[i]! < b:=h _ (by rw[getElem!_pos l i hi];exact List.getElem_mem hi)
theorem gq {b:Int}{l:List Int}(h:okW b l){i:Nat}{v:Int}(hv:0<=v/\v<b):okW b (l.set i v):=fun x hx=>by
 rcases List.mem_or_eq_of_mem_set hx with hx|rfl
 . exact h x hx
 . exact hv
theorem dL {b:Int}{l:List Int}(h:okW b l)(n:Nat):okW b (l.take n):=fun x hx=>h x (List.mem_of_mem_take hx)
theorem jd {b:Int}{l:List Int}(h:okW b l)(n:Nat):okW b (l.drop n):=fun x hx=>h x (List.mem_of_mem_drop hx)
theorem js {b:Int}{l m:List Int}(h:okW b l)(k:okW b m):okW b (l++m):=fun x hx=>by
 rcases List.mem_append.1 hx with hx|hx
 . exact h x hx
 . exact k x hx
theorem km {b:Int}(hb:0<b){n:Nat}:okW b (c5 n 0):=fun x hx=>by
 rw[(l9.1 hx).2];omega
theorem fN {b:Int}:∀{l m:List Int},WV b (l++m)=WV b l+b^l.length*WV b m
 | [],m=>by simp[WV]
 | x::l,m=>by
  rw[n3,WV,WV,fN,f8,ce];grind
theorem kP {b:Int}{l:List Int}{i:Nat}(h:i<=l.length):WV b l=WV b (l.take i)+b^i*WV b (l.drop i):=by
 have:=fN (b:=b) (l:=l.take i) (m:=l.drop i);rwa [fM,b5,c7 h]at this
theorem fo {b:Int}{l:List Int}{i:Nat}(h:i<l.length):WV b (l.take (i+1))=WV b (l.take i)+b^i*l[i]! := by
 rw[m7,gF h,getElem!_pos l i h,mn,fN,b5,c7 ac];simp[WV]
theorem nJ {b:Int}{l:List Int}{i:Nat}(h:i<l.length):WV b (l.drop i)=l[i]! + b*WV b (l.drop (i+1)):=by
 rw[dF h,getElem!_pos l i h,WV]
theorem Io {b:Int}:∀{l:List Int},(∀x∈l,x=0)->WV b l=0
 | [],_=>rfl
 | x::l,h=>by rw[WV,h x aq,Io fun y hy=>h y (by simp[hy])];simp
theorem kn {b:Int}{n:Nat}:WV b (c5 n 0)=0:=Io fun _x hx=>(l9.1 hx).2
theorem gr {b:Int}:∀{l:List Int} {i:Nat} {v:Int},i<l.length->WV b (l.set i v)=WV b l+b^i*(v-l[i]!)
 | [],i,v,h=>by simp at h
 | x::l,0,v,h=>by simp[WV];omega
 | x::l,i+1,v,h=>by
  have e:(x::l)[i+1]! = l[i]! := by simp[b6]
  rw[mp,WV,WV,gr (by simpa using h),e,ce];grind
theorem rJ {b:Int}(hb:0<b)(n:Nat):0<b^n:=cd hb
theorem cA {b:Int}(hb:0<b):∀{l:List Int},okW b l->0<=WV b l
 | [],_=>Int.le_refl _
 | x::l,h=>by
  obtain⟨h1,h2⟩:=Im h;have:=c6 (bj hb) (cA hb h2);rw[WV];omega
theorem dz {b:Int}(hb:0<b):∀{l:List Int},okW b l->WV b l<b^l.length
 | [],_=>by simp[WV]
 | x::l,h=>by
  obtain⟨h1,h2⟩:=Im h;have h3:=dz hb h2;have h4:b*(WV b l+1)<=b*b^l.length:=aZ ac (bj hb);rw[WV,f8,ce,b8 (b^l.length) b];rw[ci]at h4;omega
theorem ie {b:Int}(hb:1<b){m n:Nat}(h:m<=n):b^m<=b^n:=by
 obtain⟨k,rfl⟩:∃k,n=m+k:=⟨n-m,ac⟩;rw[d9];have h1:=rJ (show 0<b by omega) m;have h2:=rJ (show 0<b by omega) k;have h3:b^m*1<=b^m*b^k:=aZ ac (bj h1);omega
def aS:List Int->Nat
 | []=>0
 | x::l=>if aS l=0 then (if x=0 then 0 else 1) else aS l+1
theorem iJ:∀{l:List Int},aS l<=l.length
 | []=>bc _
 | x::l=>by
  have:=iJ (l:=l);rw[aS,f8]
  (repeat' split) <;> omega
theorem Ip:∀{l:List Int} {x:Int},aS (l++[x])=if x=0 then aS l else l.length+1
 | [],x=>by simp[aS]
 | y::l,x=>by
  rw[n3,aS,Ip,aS,f8];by_cases hx:x=0
  . simp[hx]
  . simp[hx]
theorem nK {l:List Int}{i:Nat}(h:i<l.length):aS (l.take (i+1))=if l[i]! = 0 then aS (l.take i) else i+1:=by
 rw[m7,gF h,getElem!_pos l i h,mn,Ip,b5,c7 ac]
theorem ve {b:Int}:∀{l:List Int},WV b (l.take (aS l))=WV b l
 | []=>rfl
 | x::l=>by
  have ih:=ve (b:=b) (l:=l);rw[aS];by_cases h:aS l=0
  . rw[h]at ih;rw[if_pos h,WV,←ih];by_cases hx:x=0
    . rw[if_pos hx,hx];simp[WV]
    . rw[if_neg hx];simp[WV]
  . rw[if_neg h,le,WV,WV,ih]
def aR (l:List Int):Prop:=aS l=l.length
theorem jP:aR []:=rfl
theorem BT:∀{l:List Int},aR (l.take (aS l))
 | []=>rfl
 | x::l=>by
  have ih:=BT (l:=l);have hle:=iJ (l:=l);rw[aS];by_cases h:aS l=0
  . rw[if_pos h];by_cases hx:x=0
    . rw[if_pos hx];rfl
    . rw[if_neg hx];simp[aR,aS,hx]
  . rw[if_neg h,le];unfold aR at ih ⊢;rw[b5,c7 hle]at ih;rw[aS,f8,b5,c7 hle,ih,if_neg h]
theorem nL {l:List Int}(h:aR l)(h0:0<l.length):l[l.length-1]! ≠ 0:=fun e=>by
 have:=nK (l:=l) (i:=l.length-1) ac;rw[show l.length-1+1=l.length by omega,dU,if_pos e]at this;have h2:=iJ (l:=l.take (l.length-1));rw[b5]at h2;unfold aR at h;omega
theorem BU {l:List Int}(h:0<l.length):aR l↔l[l.length-1]! ≠ 0:=by
 refine⟨fun hn=>nL hn h,fun e=>?_⟩;have:=nK (l:=l) (i:=l.length-1) ac;rw[show l.length-1+1=l.length by omega,dU,if_neg e]at this;exact this
theorem pP {b:Int}(hb:1<b){l:List Int}(ok:okW b l)(h:aR l)(h0:0<l.length):b^(l.length-1)<=WV b l:=by
 have e:=kP (b:=b) (l:=l) (i:=l.length-1) ac;have h1:=cA ac (dL ok (l.length-1));have h2:=nJ (b:=b) (l:=l) (i:=l.length-1) ac;rw[show l.length-1+1=l.length by omega,jN,WV,cN,d6]at h2;have h3:=nL h h0;have h4:=cj ok (i:=l.length-1) ac;rw[h2]at e;have h5:=rJ (show 0<b by omega) (l.length-1);have h6:b^(l.length-1)*1<=b^(l.length-1)*l[l.length-1]! := aZ ac (bj h5);omega
theorem je {b:Int}(hb:1<b){l:List Int}(ok:okW b l)(h:aR l):0<WV b l↔l≠[]:=by
 constructor
 . rintro h1 rfl;simp[WV]at h1
 . intro h1;have h0:0<l.length:=List.length_pos_iff.2 h1;have:=pP hb ok h h0;have:=rJ (show 0<b by omega) (l.length-1);omega
theorem nM {b:Int}(hb:1<b){l m:List Int}(okl:okW b l)(okm:okW b m)(hm:aR m)(h:l.length<m.length):WV b l<WV b m:=by
 have h1:=dz ac okl;have h2:=pP hb okm hm ac;have h3:=ie hb (show l.length<=m.length-1 by omega);omega
theorem gu {b:Int}(hb:1<b){l:List Int}(ok:okW b l)(h:aR l){n:Nat}(hv:WV b l<b^n):l.length<=n:=by
 rcases m8 n l.length with h1|h1
 . have h2:=pP hb ok h ac;have h3:=ie hb (show n<=l.length-1 by omega);omega
 . exact h1
end Go.Ab.aX

/-
  Own work: words of 64 binary digits: the product of two words.
-/
namespace Go.Ab.Ch5.N
open Go.Ab.aX
variable {M:ax} {cap c1 c2:Option Nat}
theorem Tk {x y:Int}(hx:0<=x/\x<18446744073709551616)(hy:0<=y/\y<18446744073709551616) :
 let x0:=x%4294967296;let x1:=x/4294967296;let y0:=y%4294967296;let y1:=y/4294967296
 (0<=x0*y0/\x0*y0<=18446744065119617025)/\(0<=x1*y0/\x1*y0<=18446744065119617025)/\(0<=x0*y1/\x0*y1<=18446744065119617025)/\(0<=x1*y1/\x1*y1<=18446744065119617025) /\
   x*y=x1*y1*18446744073709551616+(x1*y0+x0*y1)*4294967296+x0*y0:=by
 intro x0 x1 y0 y1;have a0:0<=x0/\x0<=4294967295:=by omega
 have a1:0<=x1/\x1<=4294967295:=by omega
 have b0:0<=y0/\y0<=4294967295:=by omega
 have b1:0<=y1/\y1<=4294967295:=by omega
 have up:∀{a b:Int},0<=a/\a<=4294967295->0<=b/\b<=4294967295->0<=a*b/\a*b<=18446744065119617025:=fun {a b} ha hb=>
  ⟨c6 ha.1 hb.1,by have:=ip ha.2 hb.2 hb.1 ac;omega⟩
 refine⟨up a0 b0,up a1 b0,up a0 b1,up a1 b1,?_⟩;have ex:x=x1*4294967296+x0:=by omega
 have ey:y=y1*4294967296+y0:=by omega
 generalize x0=x0 at *
 generalize x1=x1 at *
 generalize y0=y0 at *
 generalize y1=y1 at *
 subst ex;subst ey;grind
theorem Tl (hft:M.FT=FT)(x y:Int)(hx:0<=x/\x<18446744073709551616)(hy:0<=y/\y<18446744073709551616):bg M 259 [.uV x,.uV y] [] ⟨.ay [.uV (x*y/18446744073709551616),.uV (x*y%18446744073709551616)],[],[]⟩:=by
 obtain⟨p0,p1,p2,p3,e⟩:=Tk hx hy;refine bY (by rw[hft];exact Th) aq ?_;unfold Ij;simp only[enter];repeat' first|(apply afe;rfl;rfl;omega)|(apply aeB (n:=32) (c:=4294967296);rfl;rfl;rfl;decide;rfl)|(apply aeb;rfl;rfl;exact⟨ac,ac⟩)|(apply aed;rfl;rfl;exact⟨ac,ac⟩)|(apply aeI;rfl;rfl)|apply aaQ|apply aa|apply aaf|apply aad|apply abw|(apply abh;rfl;rfl)|(apply abl;rfl;rfl)
 refine⟨.inr rfl,rfl,_,rfl,?_,rfl⟩;refine congrArg (fun u=>AV.ay [.uV u,.uV (x*y%18446744073709551616)]) ?_;omega
abbrev uC (x:Int):List AV:=[.uV x]
abbrev an (l:List Int):List AV:=arr uC l
abbrev wB:Int:=18446744073709551616
theorem Iq {l:List Int}:(an l).length=l.length:=by
 have:=pA (f:=uC) (esz:=1) (fun _=>rfl) l;simpa using this
theorem Tm {l:List Int}{m:Nat}(h:m<l.length):(an l)[m]? = some (.uV l[m]!):=by
 induction l generalizing m with
 | nil=>simp at h
 | cons x l ih=>
  cases m with
  | zero=>rfl
  | succ m=>
   have e:(x::l)[m+1]! = l[m]! := by simp[b6]
   rw[e,←ih (by simpa using h)];rfl
section
variable {t b m:Nat} {x y:aO} {l:List aY} {pe:List AV} {lo:List (Nat×AV)} {hp:ae} {df wr:List Nat} {L:List Int} {e:TypeId} {v:Int} {Q:au->Prop}
theorem aem (hx:(St.mk pe lo hp df).ah x=some (.ptr b m))(hb:hp.at b=some (.cells (an L) e))(hi:m<L.length)
 (h:WO M l ⟨⟨pe,(t,.uV L[m]!)::lo,hp,df⟩,wr⟩ Q):WO M (⟨.l t,.load 1 false x,none⟩::l) ⟨⟨pe,lo,hp,df⟩,wr⟩ Q:=by
 refine WO.Hn (c:=an L) (o:=m) (e:=e) (v:=.uV L[m]!) hx hb ?_ h;have h1:=Tm hi;have h2:m<(an L).length:=by rw[Iq];exact hi
 rw[dF h2];rw[gF h2]at h1;rw[Option.some.inj h1];rfl
theorem Tn {L:List Int}{m:Nat}{v:Int}(h:m<L.length):overwrite (an L) m (uC v)=an (L.set m v):=by
 induction L generalizing m with
 | nil=>simp at h
 | cons x L ih=>
  cases m with
  | zero=>simp[overwrite,arr]
  | succ m=>
   have:=ih (m:=m) (by simpa using h);simp only[mp];have e1:an (x::L) = .uV x::an L:=rfl;have e2:an (x::L.set m v) = .uV x::an (L.set m v):=rfl;rw[e1,e2,←this];simp[overwrite]
theorem aee (hx:(St.mk pe lo hp df).ah x=some (.ptr b m))(hy:(St.mk pe lo hp df).ah y=some (.uV v))(hb:hp.at b=some (.cells (an L) e))(hi:m<L.length)
 (h:WO M l ⟨⟨pe,lo,hp.put b (some (.cells (an (L.set m v)) e)),df⟩,b::wr⟩ Q):WO M (⟨.no,.store 1 x y,none⟩::l) ⟨⟨pe,lo,hp,df⟩,wr⟩ Q:=
 adM (c:=an L) (new:=uC v) hx (by rw[hy];rfl) hb ⟨rfl,by rw[Iq];omega,rfl⟩ (Tn hi) h
end
def bO (b n:Nat)(cap:Option Nat):AV:=if 0<n then .sl b 0 n 1 cap else .vs [] 0 cap
theorem aeK {t n r b:Nat}{k:IntKind}{x y:aO}{l:List aY}{pe:List AV}{lo:List (Nat×AV)}{hp:ae}{df wr:List Nat}{Q:au->Prop}(hx:(St.mk pe lo hp df).ah x=some (.sl b 0 n 1 cap))(hy:(St.mk pe lo hp df).ah y=some (.int k r))(hr:r<=n)(hc:∀c,cap=some c->n<=c)
 (h:WO M l ⟨⟨pe,(t,bO b r cap)::lo,hp,df⟩,wr⟩ Q):WO M (⟨.l t,.slice .sl 1 x none (some y) none,none⟩::l) ⟨⟨pe,lo,hp,df⟩,wr⟩ Q:=by
 have hcap:(0:Int)<=(r:Int)/\(r:Int)<=((cap.getD n:Nat):Int):=by
  refine⟨ac,?_⟩;cases cap with
  | none=>simp;omega
  | some c=>have:=hc c rfl;simp;omega
 have hcc:cap.map (fun x=>x)=cap:=by cases cap <;> simp
 refine abh (v:=bO b r cap) ?_ rfl h;unfold bO;simp only[bk,hx,St.dY,hy,n6,jD,bZ,m5,m6,ox,if_true,if_pos hcap,Nat.sub_zero,Nat.zero_mul,Nat.zero_add,c8];split <;> simp[hcc]
theorem To (hft:M.FT=FT){b n:Nat}{L:List Int}{e:TypeId}{hp:ae}(hb:hp.at b=some (.cells (an L) e))(hn:n<=L.length)(hl:n<1000000000)(hc:∀c,cap=some c->n<=c) :
 bg M 288 [.sl b 0 n 1 cap] hp ⟨bO b (aS (L.take n)) cap,hp,[]⟩:=by
 have hbl:=gG hb;refine mg (by rw[hft];exact SZ) aq (by unfold bO;split <;> simp[AV.top,bz];omega) ?_;unfold HY;simp only[enter];repeat' first|apply aaQ|apply aa|apply aaf|apply aad|apply abI|(apply abh;rfl;rfl)|(apply abl;rfl;rfl)
 have fin:∀(r:Nat) a1 lo,r<=n->bO b r cap=bO b (aS (L.take n)) cap->SQ M (zR [zm 18 0,zm 19 2,⟨.l 20,.slice .sl 1 (.l 18) none (some (.l 19)) none,none⟩,zw 1 20] .ret)
  (fun x s=>(x = .normal\/x = .ret)/\s.s.cg=[]/\(∃J,s.s.hp=hp++J)/\(∀x∈s.wr,hp.length<=x)/\∃vs,dH s.s [.var (.p 1)]=some vs/\aV vs=bO b (aS (L.take n)) cap) .normal ⟨⟨[.sl b 0 n 1 cap,a1,.iV r],lo,hp,[]⟩,[]⟩:=fun r a1 lo hr he=>by
  repeat' first|apply aaQ|apply aa|apply aaf|(apply abh;rfl;rfl)
  refine aeK (k:=.i64) rfl rfl hr hc ?_;repeat' first|apply aa|apply aad|apply abw|(apply abl;rfl;rfl)
  rw[he];exact⟨.inr rfl,rfl,⟨[],aq⟩,aq,_,rfl,rfl⟩
 have loop:∀(r:Nat) lo a1,r<=n->aS (L.take r)=aS (L.take n)->W M (.loop uQ) ⟨⟨[.sl b 0 n 1 cap,a1,.iV r],lo,hp,[]⟩,[]⟩ (BQ 0 (SQ M (zR [zm 18 0,zm 19 2,⟨.l 20,.slice .sl 1 (.l 18) none (some (.l 19)) none,none⟩,zw 1 20] .ret)
  (fun x s=>(x = .normal\/x = .ret)/\s.s.cg=[]/\(∃J,s.s.hp=hp++J)/\(∀x∈s.wr,hp.length<=x)/\∃vs,dH s.s [.var (.p 1)]=some vs/\aV vs=bO b (aS (L.take n)) cap))):=by
  intro r;induction r with
  | zero=>
   intro lo a1 hr he;refine W.loop ?_;unfold uQ;repeat' first|(refine fin 0 _ _ ac (by rw[←he];rfl))|apply aaQ|apply aa|apply aaf|apply aad|apply acH|apply bN|apply bJ|apply dP|(apply abx;rfl)|(apply adu;rfl)|(apply abV;rfl;rfl)|(apply acw;rfl;rfl)|(apply abh;rfl;rfl)|(intro _;omega)|intro _
   all_goals try omega
  | succ r ih=>
   intro lo a1 hr he;have e:=nK (l:=L) (i:=r) ac;have ei:0+((((r+1:Nat):Int)-1).toNat)*1=r:=by omega
   have er:((r+1:Nat):Int)-1=r:=by omega
   refine W.loop ?_;unfold uQ;by_cases h0:L[r]! = 0
   . rw[if_pos h0]at e;repeat' first|(apply aem;exact congrArg (fun z=>some (AV.ptr b z)) ei;exact hb;omega)|apply aaQ|apply aa|apply aaf|apply aad|apply abI|apply abC|apply bE|(apply abz;rfl)|(apply acF;rfl)|(apply abV;rfl;rfl)|(apply acR;rfl;rfl)|(apply aco;rfl;rfl)|(apply adj;rfl;rfl;omega)|(apply adP;rfl;rfl;omega)|(apply abh;rfl;rfl)|(apply abl;rfl;rfl)|(intro _;omega)|intro _
     all_goals try omega
     refine gk ?_;have:=ih ((17,.iV (((r+1:Nat):Int)-1))::(16,.iV ((r+1:Nat):Int))::[]) a1 ac (e.symm.trans he);rw[←er]at this;exact this
   . rw[if_neg h0]at e;repeat' first|(apply aem;exact congrArg (fun z=>some (AV.ptr b z)) ei;exact hb;omega)|(refine fin (r+1) _ _ ac (by rw[←he,e]))|apply aaQ|apply aa|apply aaf|apply aad|apply acH|apply bN|apply bJ|apply dP|(apply abx;rfl)|(apply acF;rfl)|(apply abV;rfl;rfl)|(apply acR;rfl;rfl)|(apply aco;rfl;rfl)|(apply adj;rfl;rfl;omega)|(apply adP;rfl;rfl;omega)|(apply abh;rfl;rfl)|(intro _;omega)|intro _
     all_goals try omega
 exact loop n _ _ (bc _) rfl
def br (x:Int):Int:=if x<0 then -1 else if 0<x then 1 else 0
theorem vh {B:Int}(hB:1<B){a b:List Int}(ha:okW B a)(hb:okW B b){i:Nat}(hi:i<a.length)(hi2:i<b.length)(hd:a.drop (i+1)=b.drop (i+1))(h:a[i]! < b[i]!):WV B a<WV B b:=by
 have e1:=kP (b:=B) (l:=a) (i:=i) ac;have e2:=kP (b:=B) (l:=b) (i:=i) ac;rw[nJ hi]at e1;rw[nJ hi2,←hd]at e2;have h1:=dz ac (dL ha i);have h2:=cA ac (dL hb i);rw[b5,c7 ac]at h1;have h3:B^i*(a[i]! + B*WV B (a.drop (i+1))+1)<=B^i*(b[i]! + B*WV B (a.drop (i+1))):=aZ ac (bj (rJ ac i));rw[ci _ _ 1,iB]at h3;omega
theorem Tp (hft:M.FT=FT)(a b:List Int)(ha:okW wB a)(hb:okW wB b)(na:aR a)(nb:aR b)(la:a.length<1000000000)(_lb:b.length<1000000000) :
 bg M 286 [.vs (an a) a.length c1,.vs (an b) b.length c2] [] ⟨.iV (br (WV wB a-WV wB b)),[],[]⟩:=by
 have hB:(1:Int)<wB:=by decide
 refine bY (by rw[hft];exact Ta) aq ?_;unfold HZ;simp only[enter];by_cases hl:a.length=b.length
 . repeat' first|apply aaQ|apply aa|apply aaf|apply aad|apply abI|apply abC|(apply abx;rfl)|(apply adf;rfl;rfl)|(apply adj;rfl;rfl;omega)|(apply abh;rfl;rfl)|(apply abl;rfl;rfl)|(intro _;omega)|intro _
   all_goals try omega
   have loop:∀(r:Nat) lo a2,r<=a.length->a.drop r=b.drop r->W M (.loop uR) ⟨⟨[.vs (an a) a.length c1,.vs (an b) b.length c2,a2,.iV ((r:Int)-1)],lo,[],[]⟩,[]⟩ (BQ 0 (SQ M (zR [⟨.p 2,.mv (.c (.iV 0)),none⟩] .ret)
    fun e s=>(e = .normal\/e = .ret)/\s.s.cg=[]/\∃vs,dH s.s [.var (.p 2)]=some vs/\aV vs = .iV (br (WV wB a-WV wB b))/\(if (AV.iV (br (WV wB a-WV wB b))).top<=0 then [] else s.s.hp)=[])):=by
    intro r;induction r with
    | zero=>
     intro lo a2 hr hd;rw[ii,ii]at hd;refine W.loop ?_;unfold uR;repeat' first|apply aaQ|apply aa|apply aaf|apply aad|apply abw|apply acH|apply bN|apply bJ|apply dP|(apply abx;rfl)|(apply adK;rfl;rfl)|(apply abh;rfl;rfl)|(apply abl;rfl;rfl)|(intro _;omega)|intro _
     all_goals try omega
     exact⟨.inr rfl,rfl,_,rfl,by rw[hd,Int.sub_self];rfl,rfl⟩
    | succ r ih=>
     intro lo a2 hr hd;have er:((r+1:Nat):Int)-1=r:=by omega
     rw[er];refine W.loop ?_;unfold uR;by_cases he:a[((r:Int)).toNat]! = b[((r:Int)).toNat]!
     . have hd2:a.drop r=b.drop r:=by
        rw[dF (show r<a.length by omega),dF (show r<b.length by omega),hd,←getElem!_pos a r,←getElem!_pos b r];exact congrArg (· :: _) he
       repeat' first|apply aaQ|apply aa|apply aaf|apply aad|apply abI|apply abC|apply bE|(apply adX;rfl)|(apply abz;rfl)|(apply abx;rfl)|(apply adK;rfl;rfl)|(apply adf;rfl;rfl)|(apply adj;rfl;rfl;omega)|(apply adp;rfl;rfl;omega)|(apply adL;rfl;exact fun _=>rfl;(first|omega|(simp only[az];omega)|(simp;omega));decide;rfl;case ia=>infer_instance)|(apply abh;rfl;rfl)|(apply abl;rfl;rfl)|(intro _;omega)|intro _
       all_goals first|contradiction|(omega)|skip
       exact gk (ih _ _ ac hd2)
     . by_cases hlt:a[((r:Int)).toNat]! < b[((r:Int)).toNat]!
       . have:=vh hB ha hb (i:=r) ac ac hd hlt;repeat' first|apply aaQ|apply aa|apply aaf|apply aad|apply abI|apply abw|apply abC|apply aU|apply cQ|apply jJ|(apply adX;rfl)|(apply abz;rfl)|(apply abR;rfl;rfl)|(apply adK;rfl;rfl)|(apply adf;rfl;rfl)|(apply adp;rfl;rfl;omega)|(apply adL;rfl;exact fun _=>rfl;(first|omega|(simp only[az];omega)|(simp;omega));decide;rfl;case ia=>infer_instance)|(apply abh;rfl;rfl)|(apply abl;rfl;rfl)|(intro _;omega)|intro _
         all_goals first|contradiction|(omega)|exact⟨.inr rfl,rfl,_,rfl,by rw[br,if_pos ac];rfl,rfl⟩
       . have:=vh hB hb ha (i:=r) ac ac hd.symm (show b[r]! < a[r]! from by
          have h1:a[r]! ≠ b[r]! := he;have h2:¬a[r]! < b[r]! := hlt;omega)
         repeat' first|apply aaQ|apply aa|apply aaf|apply aad|apply abI|apply abw|apply abC|apply aU|apply cQ|apply jJ|(apply adX;rfl)|(apply abz;rfl)|(apply abx;rfl)|(apply abR;rfl;rfl)|(apply adK;rfl;rfl)|(apply adf;rfl;rfl)|(apply adp;rfl;rfl;omega)|(apply adL;rfl;exact fun _=>rfl;(first|omega|(simp only[az];omega)|(simp;omega));decide;rfl;case ia=>infer_instance)|(apply abh;rfl;rfl)|(apply abl;rfl;rfl)|(intro _;omega)|intro _
         all_goals first|contradiction|(omega)|exact⟨.inr rfl,rfl,_,rfl,by rw[br,if_neg ac,if_pos ac];rfl,rfl⟩
   exact loop a.length _ _ (bc _) (by rw[jN,hl,jN])
 . by_cases hlt:a.length<b.length
   . have:=nM hB ha hb nb hlt;repeat' first|apply aaQ|apply aa|apply aaf|apply aad|apply abw|apply aU|(apply abz;rfl)|(apply abR;rfl;rfl)|(apply adf;rfl;rfl)|(apply abh;rfl;rfl)|(apply abl;rfl;rfl)|(intro _;omega)|intro _
     all_goals first|contradiction|(omega)|exact⟨.inr rfl,rfl,_,rfl,by rw[br,if_pos ac];rfl,rfl⟩
   . have:=nM hB hb ha na ac;repeat' first|apply aaQ|apply aa|apply aaf|apply aad|apply abw|apply abC|apply aU|(apply abz;rfl)|(apply abx;rfl)|(apply abR;rfl;rfl)|(apply adf;rfl;rfl)|(apply abh;rfl;rfl)|(apply abl;rfl;rfl)|(intro _;omega)|intro _
     all_goals first|contradiction|(omega)|exact⟨.inr rfl,rfl,_,rfl,by rw[br,if_neg ac,if_pos ac];rfl,rfl⟩
def ko (v:AV)(hh:ae)(r:List Int):Prop:=∃v1,kl hh v v1/\v1.top=0/\cw v1 = .vs (an r) r.length none
theorem Tq (l:List Int):eA (an l)=an l:=As (fun _=>rfl) l
theorem ij (l:List Int):bz (an l)=0:=jL (fun _=>rfl) l
theorem ko.trim {b:Nat}{L:List Int}{e:TypeId}{hp:ae}{n:Nat}(hb:hp.at b=some (.cells (an L) e))(hn:n<=L.length):ko (bO b (aS (L.take n)) cap) (if (aV [bO b (aS (L.take n)) cap]).top<=0 then [] else hp) (L.take (aS (L.take n))):=by
 have hle:=iJ (l:=L.take n);rw[b5]at hle;obtain⟨k,hk⟩:∃k,k=aS (L.take n):=⟨_,rfl⟩;rw[←hk]at hle ⊢;by_cases h0:0<k
 . have e1:bO b k cap = .sl b 0 k 1 cap:=if_pos h0;rw[e1,if_neg (by simp[aV,AV.top])];have hl:(L.take k).length=k:=by rw[b5];omega
   have hF:Fr hp [b] (.sl b 0 k 1 cap) (.vs (an (L.take k)) k none):=by
    refine .sl (m:=an (L.take k)) (gT.2 rfl) hb ?_ rfl (fun i x y hx hy=>?_) (.inr rfl)
    . have:=kO (f:=uC) (esz:=1) (fun _=>rfl) (l:=L) (i:=0) (n:=k) ac;simpa using this
    . rw[hx]at hy;cases hy;exact .same (cR (ij _) hx)
   unfold ko;rw[hl];refine⟨_,⟨[b],hF,rfl,fun c l' e' hc hl'=>?_⟩,ij _,by rw[cw,Tq]⟩;rw[gT.1 hc,hb]at hl';cases hl';exact pz (fun _=>rfl) _
 . obtain rfl:k=0:=by omega
   exact⟨.vs [] 0 cap,.same rfl rfl,rfl,rfl⟩
theorem kp {n k:Nat}:(c5 n (0:Int))[k]! = 0:=by
 rw[b6,List.getElem?_replicate];split <;> rfl
theorem gV {L:List Int}{i k:Nat}{v:Int}(h:i≠k):(L.set i v)[k]! = L[k]! := by
 rw[b6,b6,k9 h]
theorem vi {L:List Int}{i:Nat}{v:Int}(h:i<L.length):(L.set i v)[i]! = v:=by
 rw[b6,List.getElem?_set_self h];rfl
structure mq (M:ax):Prop where
 ft:M.FT=FT
 vj:∀ars h,M.ext 288 ars h=none
 mr:∀x y c h,0<=x->0<=y->0<=c->c<=1->M.ext 310 [.uV x,.uV y,.uV c] h=some ⟨.ay [.uV ((x+y+c)%18446744073709551616),.uV ((x+y+c)/18446744073709551616)],h,[]⟩
 vk:∀(x y c:Int) h,0<=x->x<18446744073709551616->0<=y->y<18446744073709551616->0<=c->c<=1->M.ext 330 [.uV x,.uV y,.uV c] h=some ⟨.ay [.uV ((x-y-c)%18446744073709551616),.uV (if x<y+c then 1 else 0)],h,[]⟩
theorem mq.kQ (C:mq M){b n:Nat}{L:List Int}{e:TypeId}{hp:ae}(hb:hp.at b=some (.cells (an L) e))(hn:n<=L.length)(hl:n<1000000000)(hc:∀c,cap=some c->n<=c):CT M (.fn (.func 288) [] []) [.sl b 0 n 1 cap] hp ⟨bO b (aS (L.take n)) cap,hp,[]⟩:=
 CT.run (fi:=[]) (ca:=[]) (C.vj _ _) (To C.ft hb hn hl hc)
def pQ (M:ax)(g:Nat)(ars:List AV)(z:Int):Prop:=∃r:List Int,(okW wB r/\aR r/\WV wB r=z)/\∃v hh,ko v hh r/\bg M g ars [] ⟨v,hh,[]⟩
theorem BW {f N:Nat}{aP:List Nat}{res:List fw}{body:ao}{ars:List AV}{z:Int}(hft:M.FT f=some ⟨N,aP,res,body⟩)(hN:ars.length<=N)
 (h:W M body ⟨⟨aP.map (fun t=>(ars[t]?).getD cG),[],[],[]⟩,[]⟩ fun e s=>(e = .normal\/e = .ret)/\s.s.cg=[]/\∃vs,dH s.s res=some vs/\∃r:List Int,(okW wB r/\aR r/\WV wB r=z)/\ko (aV vs) (if (aV vs).top<=0 then [] else s.s.hp) r):pQ M f ars z:=by
 obtain⟨v,hh,⟨r,hr,ho⟩,h2⟩:=gS (P:=fun v hh=>∃r:List Int,(okW wB r/\aR r/\WV wB r=z)/\ko v hh r) hft hN h;exact⟨r,hr,v,hh,ho,h2⟩
theorem mu {L:List Int}(ok:okW wB L):okW wB (L.take (aS L))/\aR (L.take (aS L))/\WV wB (L.take (aS L))=WV wB L:=⟨dL ok _,BT,ve⟩
def fO (y:List Int)(i:Nat):Int:=if i<y.length then y[i]! else 0
theorem rK {B:Int}{y:List Int}{i:Nat}:WV B (y.take (i+1))=WV B (y.take i)+B^i*fO y i:=by
 unfold fO;split
 . rename_i h;exact fo h
 . rename_i h;rw[aW ac,aW ac,cN,d6]
theorem Ir {y:List Int}(ok:okW wB y)(i:Nat):0<=fO y i/\fO y i<wB:=by
 unfold fO;split
 . rename_i h;exact cj ok h
 . exact⟨am,am⟩
theorem Is (C:mq M)(x y:List Int)(hx:okW wB x)(hy:okW wB y)(lx:x.length<100000000)(ly:y.length<=x.length){Q:Ex->au->Prop}(a2 a5 a6:AV)(lo:List (Nat×AV))
 (hQ:∀L (c:Int) a5 a6 lo wr,L.length=x.length+1->okW wB L->(0<=c/\c<=1)->L[x.length]! = 0->WV wB L+wB^x.length*c=WV wB x+WV wB y ->
   Q (.exit 0) ⟨⟨[.vs (an x) x.length c1,.vs (an y) y.length c2,a2,.sl 0 0 (x.length+1) 1 (some (x.length+1)),.uV c,a5,a6,.iV x.length,.iV x.length],lo,[some (.cells (an L) 274)],[]⟩,wr⟩) :
 W M (.loop uX) ⟨⟨[.vs (an x) x.length c1,.vs (an y) y.length c2,a2,.sl 0 0 (x.length+1) 1 (some (x.length+1)),.uV 0,a5,a6,.iV x.length,.iV 0],lo,[some (.cells (an (c5 (x.length+1) 0)) 274)],[]⟩,[]⟩ Q:=by
 refine W.gn x.length (fun i s=>∃L c a5 a6 lo wr,s=⟨⟨[.vs (an x) x.length c1,.vs (an y) y.length c2,a2,.sl 0 0 (x.length+1) 1 (some (x.length+1)),.uV c,a5,a6,.iV x.length,.iV i],lo,[some (.cells (an L) 274)],[]⟩,wr⟩ /\
  L.length=x.length+1/\okW wB L/\(0<=c/\c<=1)/\(∀k,i<=k->L[k]! = 0)/\WV wB L+wB^i*c=WV wB (x.take i)+WV wB (y.take i)) (fun i s hi ⟨L,c,a5,a6,lo,wr,hs,hl,bT,hc,hz,hv⟩=>?_) (fun s ⟨L,c,a5,a6,lo,wr,hs,hl,bT,hc,hz,hv⟩=>?_) (f7 _)
  ⟨_,_,_,_,_,_,rfl,aq,km am,⟨am,am⟩,fun k _=>kp,by rw[kn];simp[WV]⟩
 . subst hs;have gx:=cj hx hi;rw[show x[i]! = x[((i:Int)).toNat]! from rfl]at gx;have gy:=Ir hy i;obtain⟨v,hvv⟩:∃v,v=fO y i:=⟨_,rfl⟩;rw[←hvv]at gy;have q310:=fun h=>C.mr x[((i:Int)).toNat]! v c h gx.1 gy.1 hc.1 hc.2
   obtain⟨S,hS⟩:∃S,S=x[((i:Int)).toNat]! + v+c:=⟨_,rfl⟩;have hS2:0<=S/\S<2*18446744073709551616:=by
    have h1:x[((i:Int)).toNat]! < 18446744073709551616:=gx.2;have h2:v<18446744073709551616:=gy.2;omega
   have eI:0+((i:Int)).toNat*1=i:=by omega
   have next:∀a5 a6 lo wr,LI (fun s=>∃L c a5 a6 lo wr,s=⟨⟨[.vs (an x) x.length c1,.vs (an y) y.length c2,a2,.sl 0 0 (x.length+1) 1 (some (x.length+1)),.uV c,a5,a6,.iV x.length,.iV ((i+1:Nat):Int)],lo,[some (.cells (an L) 274)],[]⟩,wr⟩ /\
    L.length=x.length+1/\okW wB L/\(0<=c/\c<=1)/\(∀k,i+1<=k->L[k]! = 0)/\WV wB L+wB^(i+1)*c=WV wB (x.take (i+1))+WV wB (y.take (i+1))) Q .normal ⟨⟨[.vs (an x) x.length c1,.vs (an y) y.length c2,a2,.sl 0 0 (x.length+1) 1 (some (x.length+1)),.uV (S/18446744073709551616),a5,a6,.iV x.length,.iV ((i:Int)+1)],lo,[some (.cells (an (L.set i (S%18446744073709551616))) 274)],[]⟩,wr⟩:=fun a5 a6 lo wr=>
    cW ⟨_,_,a5,a6,lo,wr,rfl,by rw[az];exact hl,gq bT ⟨ac,by show _<(18446744073709551616:Int);omega⟩,⟨ac,ac⟩,fun k hk=>by rw[gV ac];exact hz k ac,by
     rw[gr ac,hz i (bc _),fo hi,rK (y:=y),←hvv,ce];have e:S=x[i]! + v+c:=hS;have e2:S%18446744073709551616+18446744073709551616*(S/18446744073709551616)=S:=by omega
     have e3:wB^i*(S%18446744073709551616)+wB^i*18446744073709551616*(S/18446744073709551616)=wB^i*(x[i]! + v+c):=by rw[←e,←e2];grind
     show WV wB L+wB^i*(S%18446744073709551616-0)+wB^i*18446744073709551616*(S/18446744073709551616)=_;grind⟩
   unfold uX;by_cases hy2:i<y.length
   . have e:v=y[((i:Int)).toNat]! := by rw[hvv,fO,if_pos hy2];rfl
     rw[e]at q310 hS;repeat' first|(apply aee;exact congrArg (fun z=>some (AV.ptr 0 z)) eI;rfl;rfl;omega)|apply aaQ|apply aa|apply aaf|apply aad|apply abI|apply abC|apply bE|(apply abz;rfl)|(apply abR;rfl;rfl)|(apply acS;rfl;rfl;omega)|(apply abJ;rfl;rfl;first|exact q310 _)|(apply adp;rfl;rfl;omega)|(apply adP;rfl;rfl;omega)|(apply adL;rfl;exact fun _=>rfl;(first|omega|(simp only[az];omega)|(simp;omega));decide;rfl;case ia=>infer_instance)|(apply abh;rfl;rfl)|(apply abl;rfl;rfl)|(intro _;omega)|intro _
     all_goals try omega
     rw[←hS];exact next _ _ _ _
   . have e:v=0:=by rw[hvv,fO,if_neg hy2]
     rw[e]at q310 hS;repeat' first|(apply aee;exact congrArg (fun z=>some (AV.ptr 0 z)) eI;rfl;rfl;omega)|apply aaQ|apply aa|apply aaf|apply aad|apply abI|apply abC|apply bE|(apply abz;rfl)|(apply abx;rfl)|(apply abR;rfl;rfl)|(apply acS;rfl;rfl;omega)|(apply abJ;rfl;rfl;first|exact q310 _)|(apply adp;rfl;rfl;omega)|(apply adP;rfl;rfl;omega)|(apply adL;rfl;exact fun _=>rfl;(first|omega|(simp only[az];omega)|(simp;omega));decide;rfl;case ia=>infer_instance)|(apply abh;rfl;rfl)|(apply abl;rfl;rfl)|(intro _;omega)|intro _
     all_goals try omega
     rw[←hS];exact next _ _ _ _
 . subst hs;rw[dU,aW ly]at hv;unfold uX;repeat' first|apply aaQ|apply aa|apply aaf|apply aad|apply acH|apply bN|apply cX|(apply abx;rfl)|(apply abR;rfl;rfl)|(intro _;omega)|intro _
   all_goals try omega
   exact hQ L c a5 a6 _ _ hl bT hc (hz _ (bc _)) hv
theorem Tr (C:mq M)(x y:List Int)(hx:okW wB x)(hy:okW wB y)(lx:x.length<100000000)(ly:y.length<100000000):pQ M 308 [.vs (an x) x.length c1,.vs (an y) y.length c2] (WV wB x+WV wB y):=by
 have fin:∀(x y:List Int) (L:List Int) (c:Int),okW wB x->x.length<100000000->L.length=x.length+1->okW wB L->(0<=c/\c<=1)->L[x.length]! = 0->WV wB L+wB^x.length*c=WV wB x+WV wB y ->
  okW wB (L.set x.length c)/\WV wB (L.set x.length c)=WV wB x+WV wB y:=fun x y L c _ _ hl bT hc hz hv=>
  ⟨gq bT ⟨hc.1,by have:=hc.2;show c<(18446744073709551616:Int);omega⟩,by rw[gr ac,hz,gc];exact hv⟩
 refine BW (by rw[C.ft];exact Te) aq ?_;unfold Ig;simp only[enter];by_cases hl:x.length<y.length
 . repeat' first|apply aaQ|apply aa|apply aaf|apply aad|apply abI|(apply abz;rfl)|(apply abR;rfl;rfl)|(apply acS;rfl;rfl;omega)|(apply aeh;rfl;rfl;omega)|(apply abh;rfl;rfl)|(apply abl;rfl;rfl)|(intro _;omega)|intro _
   all_goals try omega
   refine Is (c1:=c2) (c2:=c1) C y x hy hx ly ac _ _ _ _ (fun L c a5 a6 lo wr h1 h2 h3 h4 h5=>?_);obtain⟨f1,f2⟩:=fin y x L c hy ly h1 h2 h3 h4 h5;have q:=C.kQ (cap:=some (y.length+1)) (b:=0) (n:=y.length+1) (L:=L.set y.length c) (e:=274) (hp:=[some (.cells (an (L.set y.length c)) 274)]) rfl (by rw[az];omega) ac (fun c hc=>by cases hc;exact bc _);rw[aW (by rw[az];omega)]at q;have eI:0+((y.length:Int)).toNat*1=y.length:=by omega
   repeat' first|(apply aee;exact congrArg (fun z=>some (AV.ptr 0 z)) eI;rfl;rfl;omega)|apply aaQ|apply aa|apply aaf|apply aad|apply abw|apply bJ|(apply adQ;rfl;rfl;first|exact q)|(apply adP;rfl;rfl;omega)|(apply abh;rfl;rfl)|(apply abl;rfl;rfl)
   refine⟨.inr rfl,rfl,_,rfl,(L.set y.length c).take (aS (L.set y.length c)),?_,?_⟩
   . obtain⟨g1,g2,g3⟩:=mu f1;exact⟨g1,g2,by rw[g3,f2];omega⟩
   . have:=ko.trim (cap:=some (y.length+1)) (b:=0) (L:=L.set y.length c) (e:=274) (hp:=[some (.cells (an (L.set y.length c)) 274)]) (n:=y.length+1) rfl (by rw[az];omega);rw[aW (by rw[az];omega)]at this;exact this
 . repeat' first|apply aaQ|apply aa|apply aaf|apply aad|apply abI|apply abC|(apply abx;rfl)|(apply abR;rfl;rfl)|(apply acS;rfl;rfl;omega)|(apply aeh;rfl;rfl;omega)|(apply abh;rfl;rfl)|(apply abl;rfl;rfl)|(intro _;omega)|intro _
   all_goals try omega
   refine Is (c1:=c1) (c2:=c2) C x y hx hy lx ac _ _ _ _ (fun L c a5 a6 lo wr h1 h2 h3 h4 h5=>?_);obtain⟨f1,f2⟩:=fin x y L c hx lx h1 h2 h3 h4 h5;have q:=C.kQ (cap:=some (x.length+1)) (b:=0) (n:=x.length+1) (L:=L.set x.length c) (e:=274) (hp:=[some (.cells (an (L.set x.length c)) 274)]) rfl (by rw[az];omega) ac (fun c hc=>by cases hc;exact bc _);rw[aW (by rw[az];omega)]at q;have eI:0+((x.length:Int)).toNat*1=x.length:=by omega
   repeat' first|(apply aee;exact congrArg (fun z=>some (AV.ptr 0 z)) eI;rfl;rfl;omega)|apply aaQ|apply aa|apply aaf|apply aad|apply abw|apply bJ|(apply adQ;rfl;rfl;first|exact q)|(apply adP;rfl;rfl;omega)|(apply abh;rfl;rfl)|(apply abl;rfl;rfl)
   refine⟨.inr rfl,rfl,_,rfl,(L.set x.length c).take (aS (L.set x.length c)),?_,?_⟩
   . obtain⟨g1,g2,g3⟩:=mu f1;exact⟨g1,g2,by rw[g3,f2]⟩
   . have:=ko.trim (cap:=some (x.length+1)) (b:=0) (L:=L.set x.length c) (e:=274) (hp:=[some (.cells (an (L.set x.length c)) 274)]) (n:=x.length+1) rfl (by rw[az];omega);rw[aW (by rw[az];omega)]at this;exact this
theorem Ts (C:mq M)(x y:List Int)(hx:okW wB x)(hy:okW wB y)(lx:x.length<100000000)(ly:y.length<=x.length){Q:Ex->au->Prop}(a2 a5 a6:AV)(lo:List (Nat×AV))
 (hQ:∀L (c:Int) a5 a6 lo wr,L.length=x.length->okW wB L->(0<=c/\c<=1)->WV wB L-wB^x.length*c=WV wB x-WV wB y ->
   Q (.exit 0) ⟨⟨[.vs (an x) x.length c1,.vs (an y) y.length c2,a2,.sl 0 0 x.length 1 (some x.length),.uV c,a5,a6,.iV x.length,.iV x.length],lo,[some (.cells (an L) 274)],[]⟩,wr⟩) :
 W M (.loop uY) ⟨⟨[.vs (an x) x.length c1,.vs (an y) y.length c2,a2,.sl 0 0 x.length 1 (some x.length),.uV 0,a5,a6,.iV x.length,.iV 0],lo,[some (.cells (an (c5 x.length 0)) 274)],[]⟩,[]⟩ Q:=by
 refine W.gn x.length (fun i s=>∃L c a5 a6 lo wr,s=⟨⟨[.vs (an x) x.length c1,.vs (an y) y.length c2,a2,.sl 0 0 x.length 1 (some x.length),.uV c,a5,a6,.iV x.length,.iV i],lo,[some (.cells (an L) 274)],[]⟩,wr⟩ /\
  L.length=x.length/\okW wB L/\(0<=c/\c<=1)/\(∀k,i<=k->L[k]! = 0)/\WV wB L-wB^i*c=WV wB (x.take i)-WV wB (y.take i)) (fun i s hi ⟨L,c,a5,a6,lo,wr,hs,hl,bT,hc,hz,hv⟩=>?_) (fun s ⟨L,c,a5,a6,lo,wr,hs,hl,bT,hc,hz,hv⟩=>?_) (f7 _)
  ⟨_,_,_,_,_,_,rfl,aq,km am,⟨am,am⟩,fun k _=>kp,by rw[kn];simp[WV]⟩
 . subst hs;have gx:=cj hx hi;rw[show x[i]! = x[((i:Int)).toNat]! from rfl]at gx;have gy:=Ir hy i;obtain⟨v,hvv⟩:∃v,v=fO y i:=⟨_,rfl⟩;rw[←hvv]at gy;have q330:=fun h=>C.vk x[((i:Int)).toNat]! v c h gx.1 gx.2 gy.1 gy.2 hc.1 hc.2
   obtain⟨S,hS⟩:∃S,S=x[((i:Int)).toNat]! - v-c:=⟨_,rfl⟩;obtain⟨D,hD⟩:∃D:Int,D=if x[((i:Int)).toNat]! < v+c then 1 else 0:=⟨_,rfl⟩
   have hD2:0<=D/\D<=1/\S=S%18446744073709551616-18446744073709551616*D:=by
    have h1:x[((i:Int)).toNat]! < 18446744073709551616:=gx.2;have h2:v<18446744073709551616:=gy.2;rw[hD];split <;> omega
   have eI:0+((i:Int)).toNat*1=i:=by omega
   have next:∀a5 a6 lo wr,LI (fun s=>∃L c a5 a6 lo wr,s=⟨⟨[.vs (an x) x.length c1,.vs (an y) y.length c2,a2,.sl 0 0 x.length 1 (some x.length),.uV c,a5,a6,.iV x.length,.iV ((i+1:Nat):Int)],lo,[some (.cells (an L) 274)],[]⟩,wr⟩ /\
    L.length=x.length/\okW wB L/\(0<=c/\c<=1)/\(∀k,i+1<=k->L[k]! = 0)/\WV wB L-wB^(i+1)*c=WV wB (x.take (i+1))-WV wB (y.take (i+1))) Q .normal ⟨⟨[.vs (an x) x.length c1,.vs (an y) y.length c2,a2,.sl 0 0 x.length 1 (some x.length),.uV D,a5,a6,.iV x.length,.iV ((i:Int)+1)],lo,[some (.cells (an (L.set i (S%18446744073709551616))) 274)],[]⟩,wr⟩:=fun a5 a6 lo wr=>
    cW ⟨_,_,a5,a6,lo,wr,rfl,by rw[az];exact hl,gq bT ⟨ac,by show _<(18446744073709551616:Int);omega⟩,⟨hD2.1,hD2.2.1⟩,fun k hk=>by rw[gV ac];exact hz k ac,by
     rw[gr ac,hz i (bc _),fo hi,rK (y:=y),←hvv,ce];have e:S=x[i]! - v-c:=hS;have e3:wB^i*(S%18446744073709551616)-wB^i*18446744073709551616*D=wB^i*(x[i]! - v-c):=by rw[←e,b7,←g9,←hD2.2.2]
     show WV wB L+wB^i*(S%18446744073709551616-0)-wB^i*18446744073709551616*D=_;grind⟩
   unfold uY;by_cases hy2:i<y.length
   . have e:v=y[((i:Int)).toNat]! := by rw[hvv,fO,if_pos hy2];rfl
     rw[e]at q330 hS hD;rw[←hS,←hD]at q330;repeat' first|(apply aee;exact congrArg (fun z=>some (AV.ptr 0 z)) eI;rfl;rfl;omega)|apply aaQ|apply aa|apply aaf|apply aad|apply abI|apply abC|apply bE|(apply abz;rfl)|(apply abR;rfl;rfl)|(apply acS;rfl;rfl;omega)|(apply abJ;rfl;rfl;first|exact q330 _)|(apply adp;rfl;rfl;omega)|(apply adP;rfl;rfl;omega)|(apply adL;rfl;exact fun _=>rfl;(first|omega|(simp only[az];omega)|(simp;omega));decide;rfl;case ia=>infer_instance)|(apply abh;rfl;rfl)|(apply abl;rfl;rfl)|(intro _;omega)|intro _
     all_goals try omega
     exact next _ _ _ _
   . have e:v=0:=by rw[hvv,fO,if_neg hy2]
     rw[e]at q330 hS hD;rw[←hS,←hD]at q330;repeat' first|(apply aee;exact congrArg (fun z=>some (AV.ptr 0 z)) eI;rfl;rfl;omega)|apply aaQ|apply aa|apply aaf|apply aad|apply abI|apply abC|apply bE|(apply abz;rfl)|(apply abx;rfl)|(apply abR;rfl;rfl)|(apply acS;rfl;rfl;omega)|(apply abJ;rfl;rfl;first|exact q330 _)|(apply adp;rfl;rfl;omega)|(apply adP;rfl;rfl;omega)|(apply adL;rfl;exact fun _=>rfl;(first|omega|(simp only[az];omega)|(simp;omega));decide;rfl;case ia=>infer_instance)|(apply abh;rfl;rfl)|(apply abl;rfl;rfl)|(intro _;omega)|intro _
     all_goals try omega
     exact next _ _ _ _
 . subst hs;rw[dU,aW ly]at hv;unfold uY;repeat' first|apply aaQ|apply aa|apply aaf|apply aad|apply acH|apply bN|apply cX|(apply abx;rfl)|(apply abR;rfl;rfl)|(intro _;omega)|intro _
   all_goals try omega
   exact hQ L c a5 a6 _ _ hl bT hc hv
theorem Tt (C:mq M)(x y:List Int)(hx:okW wB x)(hy:okW wB y)(lx:x.length<100000000)(ly:y.length<=x.length)(hle:WV wB y<=WV wB x):pQ M 309 [.vs (an x) x.length c1,.vs (an y) y.length c2] (WV wB x-WV wB y):=by
 refine BW (by rw[C.ft];exact Tf) aq ?_;unfold Ih;simp only[enter];repeat' first|apply aaQ|apply aa|apply aaf|apply aad|apply abI|(apply aeh;rfl;rfl;omega)|(apply abh;rfl;rfl)|(apply abl;rfl;rfl)
 all_goals try omega
 refine Ts (c1:=c1) (c2:=c2) C x y hx hy lx ly _ _ _ _ (fun L c a5 a6 lo wr h1 h2 h3 h5=>?_);have h6:WV wB L=WV wB x-WV wB y:=by
  have h7:=dz (b:=wB) am h2;rw[h1]at h7;have h8:c=0:=by
   rcases db 0 c with h|h
   . have:c=1:=by omega
     subst this;rw[iB]at h5;omega
   . omega
  subst h8;rw[cN]at h5;omega
 have q:=C.kQ (cap:=some x.length) (b:=0) (n:=x.length) (L:=L) (e:=274) (hp:=[some (.cells (an L) 274)]) rfl ac ac (fun c hc=>by cases hc;exact bc _);rw[aW ac]at q;repeat' first|apply aaQ|apply aa|apply aaf|apply aad|apply abw|apply bJ|(apply adQ;rfl;rfl;first|exact q)|(apply abh;rfl;rfl)|(apply abl;rfl;rfl)
 refine⟨.inr rfl,rfl,_,rfl,L.take (aS L),?_,?_⟩
 . obtain⟨g1,g2,g3⟩:=mu h2;exact⟨g1,g2,by rw[g3,h6]⟩
 . have:=ko.trim (cap:=some x.length) (b:=0) (L:=L) (e:=274) (hp:=[some (.cells (an L) 274)]) (n:=x.length) rfl ac;rw[aW ac]at this;exact this
structure mw (M:ax):Prop extends mq M where
 nN:∀(x y:Int) h,(0<=x/\x<18446744073709551616)->(0<=y/\y<18446744073709551616)->M.ext 259 [.uV x,.uV y] h=some ⟨.ay [.uV (x*y/18446744073709551616),.uV (x*y%18446744073709551616)],h,[]⟩
theorem vn {x y:Int}(hx:0<=x/\x<18446744073709551616)(hy:0<=y/\y<18446744073709551616):0<=x*y/\x*y<=340282366920938463426481119284349108225:=by
 refine⟨c6 hx.1 hy.1,?_⟩;have:=ip (a:=x) (b:=y) (c:=18446744073709551615) (d:=18446744073709551615) ac ac hy.1 ac;omega
theorem Tu (C:mw M)(a b:List Int)(hb:okW wB b)(la:a.length<10000000)(lb:b.length<10000000)(i:Nat)(hi:i<a.length)(x P:Int)(hx:0<=x/\x<18446744073709551616){Q:Ex->au->Prop}(a2 a7 a8 a9 aA aB aC aD aE:AV)(lo:List (Nat×AV))(wr:List Nat)(L:List Int)(hl:L.length=a.length+b.length)(bT:okW wB L)(hz:∀k,i+b.length<=k->L[k]! = 0)(hv:WV wB L=P)
 (hQ:∀L (c:Int) a7 a8 a9 aA aB lo wr,L.length=a.length+b.length->okW wB L->(0<=c/\c<18446744073709551616)->(∀k,i+b.length<=k->L[k]! = 0)->WV wB L+wB^(i+b.length)*c=P+wB^i*x*WV wB b ->
   Q (.exit 2) ⟨⟨[.vs (an a) a.length c1,.vs (an b) b.length c2,a2,.sl 0 0 (a.length+b.length) 1 (some (a.length+b.length)),.iV i,.uV x,.uV c,a7,a8,a9,aA,aB,aC,aD,aE,.vs (an b) b.length c2,.iV b.length,.iV b.length],lo,[some (.cells (an L) 274)],[]⟩,wr⟩) :
 W M (.loop uS) ⟨⟨[.vs (an a) a.length c1,.vs (an b) b.length c2,a2,.sl 0 0 (a.length+b.length) 1 (some (a.length+b.length)),.iV i,.uV x,.uV 0,a7,a8,a9,aA,aB,aC,aD,aE,.vs (an b) b.length c2,.iV b.length,.iV 0],lo,[some (.cells (an L) 274)],[]⟩,wr⟩ Q:=by
 refine W.gn b.length (fun j s=>∃L c a7 a8 a9 aA aB lo wr,s=⟨⟨[.vs (an a) a.length c1,.vs (an b) b.length c2,a2,.sl 0 0 (a.length+b.length) 1 (some (a.length+b.length)),.iV i,.uV x,.uV c,a7,a8,a9,aA,aB,aC,aD,aE,.vs (an b) b.length c2,.iV b.length,.iV j],lo,[some (.cells (an L) 274)],[]⟩,wr⟩ /\
  L.length=a.length+b.length/\okW wB L/\(0<=c/\c<18446744073709551616)/\(∀k,i+b.length<=k->L[k]! = 0)/\WV wB L+wB^(i+j)*c=P+wB^i*x*WV wB (b.take j)) (fun j s hj ⟨L,c,a7,a8,a9,aA,aB,lo,wr,hs,hl,bT,hc,hz,hv⟩=>?_) (fun s ⟨L,c,a7,a8,a9,aA,aB,lo,wr,hs,hl,bT,hc,hz,hv⟩=>?_) (f7 _)
  ⟨_,_,_,_,_,_,_,_,_,rfl,hl,bT,⟨am,am⟩,hz,by rw[hv];simp[WV]⟩
 . subst hs;have gy:=cj hb hj;rw[show b[j]! = b[((j:Int)).toNat]! from rfl]at gy;obtain⟨y,hy⟩:∃y,y=b[((j:Int)).toNat]! := ⟨_,rfl⟩;rw[←hy]at gy;have gy:0<=y/\y<18446744073709551616:=gy;have q259:=fun h=>C.nN x y h hx gy
   have hm:=vn hx gy;have hxy:∃m,m=x*y:=⟨_,rfl⟩;obtain⟨m,hmm⟩:=hxy;rw[←hmm]at q259 hm;have gL:=cj bT (i:=i+j) ac;obtain⟨w,hw⟩:∃w,w=L[i+j]! := ⟨_,rfl⟩;rw[←hw]at gL;have gL:0<=w/\w<18446744073709551616:=gL;have q1:=fun h=>C.mr (m%18446744073709551616) w 0 h ac gL.1 am am
   have q2:=fun h=>C.mr ((m%18446744073709551616+w+0)%18446744073709551616) c 0 h ac hc.1 am am
   obtain⟨R,hR⟩:∃R,R=((m%18446744073709551616+w+0)%18446744073709551616+c+0)%18446744073709551616:=⟨_,rfl⟩;obtain⟨D,hD⟩:∃D,D=m/18446744073709551616+(m%18446744073709551616+w+0)/18446744073709551616+((m%18446744073709551616+w+0)%18446744073709551616+c+0)/18446744073709551616:=⟨_,rfl⟩;have hD2:(0<=D/\D<18446744073709551616)/\m+w+c=R+18446744073709551616*D/\(0<=R/\R<18446744073709551616):=by omega
   have eI:0+(((i:Int)+(j:Int))).toNat*1=i+j:=by omega
   have next:∀a7 a8 a9 aA aB lo wr,LI (fun s=>∃L c a7 a8 a9 aA aB lo wr,s=⟨⟨[.vs (an a) a.length c1,.vs (an b) b.length c2,a2,.sl 0 0 (a.length+b.length) 1 (some (a.length+b.length)),.iV i,.uV x,.uV c,a7,a8,a9,aA,aB,aC,aD,aE,.vs (an b) b.length c2,.iV b.length,.iV ((j+1:Nat):Int)],lo,[some (.cells (an L) 274)],[]⟩,wr⟩ /\
    L.length=a.length+b.length/\okW wB L/\(0<=c/\c<18446744073709551616)/\(∀k,i+b.length<=k->L[k]! = 0)/\WV wB L+wB^(i+(j+1))*c=P+wB^i*x*WV wB (b.take (j+1))) Q .normal ⟨⟨[.vs (an a) a.length c1,.vs (an b) b.length c2,a2,.sl 0 0 (a.length+b.length) 1 (some (a.length+b.length)),.iV i,.uV x,.uV D,a7,a8,a9,aA,aB,aC,aD,aE,.vs (an b) b.length c2,.iV b.length,.iV ((j:Int)+1)],lo,[some (.cells (an (L.set (i+j) R)) 274)],[]⟩,wr⟩:=fun a7 a8 a9 aA aB lo wr=>
    cW ⟨_,_,a7,a8,a9,aA,aB,lo,wr,rfl,by rw[az];exact hl,gq bT hD2.2.2,hD2.1,fun k hk=>by rw[gV ac];exact hz k hk,by
     rw[gr ac,←hw,fo hj,show i+(j+1)=(i+j)+1 from rfl,ce,show b[j]! = y from hy.symm];have e:=hD2.2.1;rw[hmm]at e;have e2:wB^(i+j)*(R-w)+wB^(i+j)*18446744073709551616*D=wB^(i+j)*(x*y+c):=by
      have:x*y+c=R-w+18446744073709551616*D:=by omega
      rw[this,ci,b7]
     have e3:wB^(i+j)=wB^i*wB^j:=d9 _ _ _;show WV wB L+wB^(i+j)*(R-w)+wB^(i+j)*18446744073709551616*D=P+wB^i*x*(WV wB (b.take j)+wB^j*y);rw[li,e2,ci,←li,Int.add_right_comm,hv];rw[e3];grind⟩
   rw[hD,hR,hw]at next
   rw[hw]at q1 q2;rw[hy]at q259;unfold uS;repeat' first|(apply aem;exact congrArg (fun z=>some (AV.ptr 0 z)) eI;rfl;omega)|(apply aee;exact congrArg (fun z=>some (AV.ptr 0 z)) eI;rfl;rfl;omega)|(apply aed;rfl;rfl;exact⟨ac,ac⟩)|apply aaQ|apply aa|apply aaf|apply aad|apply abI|apply abC|apply bE|(apply abz;rfl)|(apply abR;rfl;rfl)|(apply acS;rfl;rfl;omega)|(apply abJ;rfl;rfl;first|exact q259 _|exact q1 _|exact q2 _)|(apply adp;rfl;rfl;omega)|(apply adP;rfl;rfl;omega)|(apply adL;rfl;exact fun _=>rfl;(first|omega|(simp only[az];omega)|(simp;omega));decide;rfl;case ia=>infer_instance)|(apply abh;rfl;rfl)|(apply abl;rfl;rfl)|(intro _;omega)|intro _
   exact next _ _ _ _ _ _ _
 . subst hs;rw[dU]at hv;unfold uS;repeat' first|apply aaQ|apply aa|apply aaf|apply aad|apply acH|apply bN|apply cX|(apply abx;rfl)|(apply abR;rfl;rfl)|(intro _;omega)|intro _
   all_goals try omega
   exact hQ L c a7 a8 a9 aA aB _ _ hl bT hc hz hv
theorem Tv (C:mw M)(a b:List Int)(ha:okW wB a)(hb:okW wB b)(la:a.length<10000000)(lb:b.length<10000000):pQ M 262 [.vs (an a) a.length c1,.vs (an b) b.length c2] (WV wB a*WV wB b):=by
 refine BW (by rw[C.ft];exact Tb) aq ?_;unfold Ia;simp only[enter];repeat' first|apply aaQ|apply aa|apply aaf|apply aad|apply abI|(apply acS;rfl;rfl;omega)|(apply aeh;rfl;rfl;omega)|(apply abh;rfl;rfl)|(apply abl;rfl;rfl)
 have e0:((a.length:Int)+(b.length:Int)).toNat=a.length+b.length:=by omega
 rw[e0];refine W.gn a.length (fun i s=>∃L a4 a5 a6 a7 a8 a9 aA aB aF aG aH lo wr,s=⟨⟨[.vs (an a) a.length c1,.vs (an b) b.length c2,.ab,.sl 0 0 (a.length+b.length) 1 (some (a.length+b.length)),a4,a5,a6,a7,a8,a9,aA,aB,.vs (an a) a.length c1,.iV a.length,.iV i,aF,aG,aH],lo,[some (.cells (an L) 274)],[]⟩,wr⟩ /\
  L.length=a.length+b.length/\okW wB L/\(∀k,i+b.length<=k->L[k]! = 0)/\WV wB L=WV wB (a.take i)*WV wB b) (fun i s hi ⟨L,a4,a5,a6,a7,a8,a9,aA,aB,aF,aG,aH,lo,wr,hs,hl,bT,hz,hv⟩=>?_) (fun s ⟨L,a4,a5,a6,a7,a8,a9,aA,aB,aF,aG,aH,lo,wr,hs,hl,bT,hz,hv⟩=>?_) (f7 _)
  ⟨c5 (a.length+b.length) 0,_,_,_,_,_,_,_,_,_,_,_,_,_,rfl,aq,km am,fun k _=>kp,by rw[kn];simp[WV]⟩
 . subst hs;have gx:=cj ha hi;rw[show a[i]! = a[((i:Int)).toNat]! from rfl]at gx;have eI:0+(((i:Int)+(b.length:Int))).toNat*1=i+b.length:=by omega
   unfold BL;repeat' first|apply aaQ|apply aa|apply aaf|apply aad|apply abI|apply abC|(apply abz;rfl)|(apply abR;rfl;rfl)|(apply adp;rfl;rfl;omega)|(apply adL;rfl;exact fun _=>rfl;(first|omega|(simp only[az];omega)|(simp;omega));decide;rfl;case ia=>infer_instance)|(apply abh;rfl;rfl)|(apply abl;rfl;rfl)|(intro _;omega)|intro _
   refine Tu (c1:=c1) (c2:=c2) C a b hb la lb i hi a[((i:Int)).toNat]! _ gx _ _ _ _ _ _ _ _ _ _ _ L hl bT hz hv (fun L2 c a7 a8 a9 aA aB lo wr h1 h2 h3 h4 h5=>?_);repeat' first|(apply aee;exact congrArg (fun z=>some (AV.ptr 0 z)) eI;rfl;rfl;omega)|apply aa|apply aaf|apply aad|apply bE|apply bJ|(apply acS;rfl;rfl;omega)|(apply adP;rfl;rfl;omega)|(apply abh;rfl;rfl)|(apply abl;rfl;rfl)
   refine cW ⟨L2.set (i+b.length) c,_,_,_,_,_,_,_,_,_,_,_,_,_,rfl,by rw[az];exact h1,gq h2 h3,fun k hk=>by rw[gV ac];exact h4 k ac,?_⟩;rw[gr ac,h4 _ (bc _),gc,h5,fo hi];show _=(WV wB (a.take i)+wB^i*a[i]!)*WV wB b;rw[dr];rfl
 . subst hs;rw[dU]at hv;have q:=C.kQ (cap:=some (a.length+b.length)) (b:=0) (n:=a.length+b.length) (L:=L) (e:=274) (hp:=[some (.cells (an L) 274)]) rfl ac ac (fun c hc=>by cases hc;exact bc _);rw[aW ac]at q;unfold BL;repeat' first|apply aaQ|apply aa|apply aaf|apply aad|apply abw|apply acH|apply bN|apply bJ|apply cX|(apply abx;rfl)|(apply abR;rfl;rfl)|(apply adQ;rfl;rfl;first|exact q)|(apply abh;rfl;rfl)|(apply abl;rfl;rfl)|(intro _;omega)|intro _
   refine⟨.inr rfl,rfl,_,rfl,L.take (aS L),?_,?_⟩
   . obtain⟨g1,g2,g3⟩:=mu bT;exact⟨g1,g2,by rw[g3,hv]⟩
   . have:=ko.trim (cap:=some (a.length+b.length)) (b:=0) (L:=L) (e:=274) (hp:=[some (.cells (an L) 274)]) (n:=a.length+b.length) rfl ac;rw[aW ac]at this;exact this
def It:ao:=zR [zi 1 0] (.seq (zR [zm 3 0,⟨.l 4,.bin .geq (.l 3) (kU 4294967296),none⟩] (.cond (.l 4) (zR [zm 5 0,⟨.l 6,.bin .shr (.l 5) (kU 32),none⟩,zw 0 6] (.region [zi 1 32])) (.skip))) (.seq (zR [zm 7 0,⟨.l 8,.bin .geq (.l 7) (kU 65536),none⟩] (.cond (.l 8) (zR [zm 9 0,⟨.l 10,.bin .shr (.l 9) (kU 16),none⟩,zw 0 10] (.region [zm 11 1,zc 12 .add 11 16,zw 1 12])) (.skip))) (.seq (zR [zm 13 0,⟨.l 14,.bin .geq (.l 13) (kU 256),none⟩] (.cond (.l 14) (zR [zm 15 0,⟨.l 16,.bin .shr (.l 15) (kU 8),none⟩,zw 0 16] (.region [zm 17 1,zc 18 .add 17 8,zw 1 18])) (.skip))) (zR [zm 19 1,zm 20 0,⟨.l 21,.gW .u8 (.l 20),none⟩,⟨.l 22,.index (.c (.str zD0)) (.l 21),none⟩,⟨.l 23,.gW .i64 (.l 22),none⟩,zb 24 .add 19 23,zw 1 24] (.ret)))))
theorem Tw:FT 252=some ⟨25,[0,2],[.var (.p 1)],It⟩:=by kernel_rfl
def eo (x:Int):Nat:=if x=0 then 0 else x.toNat.log2+1
theorem Tx {x:Int}{n:Nat}(h:2^n<=x/\x<2^(n+1)):eo x=n+1:=by
 have h0:0<x:=by have:=cd (n:=2) (m:=n) am;omega
 obtain⟨k,rfl⟩:=ib (bj h0);have hk:k≠0:=by omega
 rw[eo,if_neg ac];have:(k:Int).toNat=k:=rfl;rw[this,(n7 hk).2 ⟨by exact_mod_cast h.1,by exact_mod_cast h.2⟩]
theorem vo {x:Int}(h:0<x):1<=eo x/\2^(eo x-1)<=x/\x<2^eo x:=by
 obtain⟨k,rfl⟩:=ib (bj h);have hk:k≠0:=by omega
 rw[eo,if_neg ac];have h1:=(n7 hk).1 rfl;have:(k:Int).toNat=k:=rfl;rw[this];refine⟨ac,?_,?_⟩
 . rw[Nat.add_sub_cancel];exact_mod_cast h1.1
 . exact_mod_cast h1.2
theorem BX {x:Int}{n:Nat}(h:x<2^n)(h0:0<=x):eo x<=n:=by
 by_cases hx:x=0
 . simp[eo,hx]
 . obtain⟨h1,h2,h3⟩:=vo (show 0<x by omega);rcases m8 n (eo x) with h4|h4
   . have:(2:Int)^n<=2^(eo x-1):=ie am ac;omega
   . exact h4
theorem Ty {x:Int}{s n:Nat}{u:Int}(hu:u=x/2^s)(_h0:0<=x)(h:2^n<=u/\u<2^(n+1)):eo x=s+n+1:=by
 have hp:=cd (n:=2) (m:=s) am;subst hu;refine Tx ⟨?_,?_⟩
 . have h1:=aZ h.1 (bj hp);have h2:=lc (x:=x) (k:=2^s) ac;rw[d9];omega
 . have h1:2^s*(x/2^s+1)<=2^s*2^(n+1):=aZ ac (bj hp);have h2:=fg (x:=x) (k:=2^s) hp;rw[ci]at h1;rw[show s+n+1=s+(n+1) by omega,d9];omega
def kR:aj:=[0,1,2,2,3,3,3,3,4,4,4,4,4,4,4,4,5,5,5,5,5,5,5,5,5,5,5,5,5,5,5,5]++c5 32 6++c5 64 7++c5 128 8
theorem Tz:∀k:Fin 256,0<k.val->1<=(kR[k.val]!).toNat/\2^((kR[k.val]!).toNat-1)<=k.val/\k.val<2^((kR[k.val]!).toNat-1+1):=by decide +kernel
theorem TA {u:Int}(h0:0<u)(h:u<256):∃n:Nat,(kR[u.toNat]!).toNat=n+1/\(2:Int)^n<=u/\u<2^(n+1):=by
 obtain⟨k,rfl⟩:=ib (bj h0);obtain⟨h1,h2,h3⟩:=Tz ⟨k,ac⟩ (by simpa using h0);refine⟨(kR[k]!).toNat-1,by simp only at h1;rw[show (k:Int).toNat=k from rfl];omega,?_,?_⟩
 . exact_mod_cast h2
 . exact_mod_cast h3
set_option maxRecDepth 100000 in
theorem TB (hft:M.FT=FT)(x:Int)(hx:0<=x/\x<18446744073709551616):bg M 252 [.uV x] [] ⟨.iV (eo x),[],[]⟩:=by
 have key:∀(u:Int) (s:Nat),u=x/2^s->(0<u/\u<256)->((kR[u.toNat]!).toNat:Int)+s=eo x:=fun u s hu h=>by
  obtain⟨n,e,h2⟩:=TA h.1 h.2;rw[Ty hu hx.1 h2,e];omega
 have tl:kR.length=256:=by decide +kernel
 have tb:∀k:Nat,(kR[k]!).toNat<256:=fun k=>UInt8.toNat_lt _
 refine bY (by rw[hft];exact Tw) aq ?_;unfold It;simp only[enter];repeat' first|(apply aeB (n:=32) (c:=4294967296);rfl;rfl;rfl;decide;rfl)|(apply aeB (n:=16) (c:=65536);rfl;rfl;rfl;decide;rfl)|(apply aeB (n:=8) (c:=256);rfl;rfl;rfl;decide;rfl)|(apply afo;rfl)|(apply adT (s:=kR);rfl;rfl;omega)|(apply aen;rfl;(have:=tb;refine⟨ac,?_⟩;exact Int.lt_trans (Int.ofNat_lt.2 (tb _)) am))|(apply acS;rfl;rfl;exact⟨m9 am (Int.add_nonneg am (Int.natCast_nonneg _)),Int.lt_of_le_of_lt (Int.add_le_add (Int.le_refl _) (Int.ofNat_le.2 (Nat.le_of_lt (tb _)))) am⟩)|(apply acS;rfl;rfl;omega)|apply aaQ|apply aa|apply aaf|apply aad|apply abw|apply abC|(apply abz;rfl)|(apply abx;rfl)|(apply adK;rfl;rfl)|(apply abh;rfl;rfl)|(apply abl;rfl;rfl)|(intro _;omega)|intro _
 all_goals try omega
 all_goals refine⟨.inr rfl,rfl,_,rfl,congrArg (fun z=>AV.iV z) ?_,rfl⟩
 . have e:x/4294967296/65536/256%256=x/4294967296/65536/256:=by omega
   rw[e,←key (x/4294967296/65536/256) 56 (by rw[show (2:Int)^56=72057594037927936 from rfl];omega) ⟨ac,ac⟩];omega
 . have e:x/4294967296/65536%256=x/4294967296/65536:=by omega
   rw[e,←key (x/4294967296/65536) 48 (by rw[show (2:Int)^48=281474976710656 from rfl];omega) ⟨ac,ac⟩];omega
 . have e:x/4294967296/256%256=x/4294967296/256:=by omega
   rw[e,←key (x/4294967296/256) 40 (by rw[show (2:Int)^40=1099511627776 from rfl];omega) ⟨ac,ac⟩];omega
 . have e:x/4294967296%256=x/4294967296:=by omega
   rw[e,←key (x/4294967296) 32 (by rw[show (2:Int)^32=4294967296 from rfl]) ⟨ac,ac⟩];omega
 . have e:x/65536/256%256=x/65536/256:=by omega
   rw[e,←key (x/65536/256) 24 (by rw[show (2:Int)^24=16777216 from rfl];omega) ⟨ac,ac⟩];omega
 . have e:x/65536%256=x/65536:=by omega
   rw[e,←key (x/65536) 16 (by rw[show (2:Int)^16=65536 from rfl]) ⟨ac,ac⟩];omega
 . have e:x/256%256=x/256:=by omega
   rw[e,←key (x/256) 8 (by rw[show (2:Int)^8=256 from rfl]) ⟨ac,ac⟩];omega
 . by_cases h0:x=0
   . subst h0;decide +kernel
   . have e:x%256=x:=by omega
     rw[e,←key x 0 aq ⟨ac,ac⟩];omega
theorem TC (hft:M.FT=FT)(x:Int)(hx:0<=x/\x<18446744073709551616)(TE:∀h,M.ext 252 [.uV x] h=some ⟨.iV (eo x),h,[]⟩):bg M 289 [.uV x] [] ⟨.iV (64-eo x:Nat),[],[]⟩:=by
 have hb:eo x<=64:=BX (n:=64) hx.2 hx.1;refine bY (by rw[hft];exact Tj) aq ?_;unfold Il;simp only[enter];repeat' first|apply aaQ|apply aa|apply aaf|apply aad|apply abw|(apply adj;rfl;rfl;omega)|(apply abJ;rfl;rfl;first|exact TE _)|(apply abh;rfl;rfl)|(apply abl;rfl;rfl)
 exact⟨.inr rfl,rfl,_,rfl,congrArg (fun z=>AV.iV z) ac,rfl⟩
structure fQ (y1 y0 v w q r:Int):Prop where
 q0:0<=q
 r0:0<=r
 e:q*y1+r=v
 ge:(v*4294967296+w)/(y1*4294967296+y0)<=q
structure jf (y1 y0 v w:Int):Prop where
 h1:2147483648<=y1/\y1<4294967296
 h0:0<=y0/\y0<4294967296
 hv:0<=v/\v<y1*4294967296+y0
 hw:0<=w/\w<4294967296
variable {y1 y0 v w q r:Int}
theorem jf.lt (C:jf y1 y0 v w):0<=(v*4294967296+w)/(y1*4294967296+y0)/\(v*4294967296+w)/(y1*4294967296+y0)<4294967296:=by
 have h1:=C.h1;have h0:=C.h0;have hv:=C.hv;have hw:=C.hw;exact⟨d8 ac ac,cV ac ac⟩
theorem fQ.Iu (C:jf y1 y0 v w)(I:fQ y1 y0 v w q r):q<=4294967297:=by
 have h1:=C.h1;have h0:=C.h0;have hv:=C.hv;rcases db 4294967297 q with h|h
 . have h2:4294967298*y1<=q*y1:=be ac ac;have h3:=I.e;have h4:=I.r0;omega
 . exact h
theorem fQ.full (_C:jf y1 y0 v w)(I:fQ y1 y0 v w q r):q*(y1*4294967296+y0)=(v-r)*4294967296+q*y0:=by
 have e:=I.e;have:v-r=q*y1:=by omega
 rw[this,ci,b7]
theorem fQ.exit (C:jf y1 y0 v w)(I:fQ y1 y0 v w q r)(h:q*y0<=4294967296*r+w):q=(v*4294967296+w)/(y1*4294967296+y0):=by
 have h1:=C.h1;have h0:=C.h0;have h2:q<=(v*4294967296+w)/(y1*4294967296+y0):=kw ac (by rw[I.full C];omega);have:=I.ge;omega
theorem fQ.dec (C:jf y1 y0 v w)(I:fQ y1 y0 v w q r)(h:4294967296<=q\/4294967296*r+w<q*y0):fQ y1 y0 v w (q-1) (r+y1):=by
 have h1:=C.h1;have h0:=C.h0;have hl:=C.lt;have hg:(v*4294967296+w)/(y1*4294967296+y0)<=q-1:=by
  rcases h with h|h
  . omega
  . have:(v*4294967296+w)/(y1*4294967296+y0)<q:=cV ac (by rw[I.full C];omega);omega
 exact⟨ac,by have:=I.r0;omega,by have:=I.e;rw[iK];omega,hg⟩
theorem fQ.my (C:jf y1 y0 v w)(I:fQ y1 y0 v w q r)(h:4294967296<=r):q=(v*4294967296+w)/(y1*4294967296+y0):=by
 have h1:=C.h1;have h0:=C.h0;have hv:=C.hv;have hw:=C.hw;have hq:q<4294967296:=by
  rcases db q 4294967296 with h'|h'
  . exact h'
  . have h2:4294967296*y1<=q*y1:=be h' ac;have:=I.e;omega
 refine I.exit C ?_;have h3:=ip (a:=q) (b:=y0) (c:=4294967295) (d:=4294967295) ac ac h0.1 ac;omega
theorem fQ.init (C:jf y1 y0 v w):fQ y1 y0 v w (v/y1) (v-v/y1*y1):=by
 have h1:=C.h1;have h0:=C.h0;have hv:=C.hv;have hw:=C.hw;have e1:=lc (x:=v) (k:=y1) ac;have e2:=fg (x:=v) (k:=y1) ac;have e3:y1*(v/y1)=v/y1*y1:=b8 _ _;refine⟨d8 hv.1 ac,ac,ac,?_⟩;have h5:(v*4294967296+w)/(y1*4294967296+y0)<=(v*4294967296+w)/(y1*4294967296):=by
  refine kw ac ?_;have hl:=C.lt;have h6:=j9 (v*4294967296+w) (show y1*4294967296+y0≠0 by omega);rw[ci]at h6;have:=c6 hl.1 h0.1;omega
 have h6:(v*4294967296+w)/(y1*4294967296)=v/y1:=by
  rw[b8 y1,←Int.ediv_ediv_of_nonneg am];congr 1;omega
 omega
theorem fQ.vt (C:jf y1 y0 v w)(h:q<4294967296)(h':0<=q):0<=q*y0/\q*y0<18446744073709551616:=by
 have h0:=C.h0;refine⟨c6 h' h0.1,?_⟩;have h3:=ip (a:=q) (b:=y0) (c:=4294967295) (d:=4294967295) ac ac h0.1 ac;omega
theorem TH (C:jf y1 y0 v w){Q:Ex->au->Prop}(a0 a1 a2 a3 a4 a5 a8 a9 aB aE aF:AV)
 (hQ:∀r lo,Q (.exit 0) ⟨⟨[a0,a1,a2,a3,a4,a5,.uV y1,.uV y0,a8,a9,.uV w,aB,.uV ((v*4294967296+w)/(y1*4294967296+y0)),.uV r,aE,aF],lo,[],[]⟩,[]⟩) :
 ∀(n:Nat) (q r:Int) lo,q.toNat=n->fQ y1 y0 v w q r->r<4294967296->W M (.loop vc) ⟨⟨[a0,a1,a2,a3,a4,a5,.uV y1,.uV y0,a8,a9,.uV w,aB,.uV q,.uV r,aE,aF],lo,[],[]⟩,[]⟩ Q:=by
 have h1:=C.h1;have h0:=C.h0;have hv:=C.hv;have hw:=C.hw;intro n;induction n with
 | zero=>
  intro q r lo hn I hr;have hq0:=I.q0;obtain rfl:q=0:=by omega
  have hr0:=I.r0;have eq:=I.exit C ac;refine W.loop ?_;unfold vc;repeat' first|(apply aeb;rfl;rfl;omega)|(apply aed;rfl;rfl;omega)|apply aaQ|apply aa|apply aaf|apply aad|apply acH|apply bN|apply dP|(apply abx;rfl)|(apply adb;rfl)|(apply abV;rfl;rfl)|(apply adK;rfl;rfl)|(apply acw;rfl;rfl)|(apply abh;rfl;rfl)|(intro _;omega)|intro _
  all_goals try omega
  have:=hQ r;rw[←eq]at this;exact this _
 | succ n ih=>
  intro q r lo hn I hr;have hq0:=I.q0;have hr0:=I.r0;have hql:=I.Iu C;refine W.loop ?_;unfold vc;by_cases hd:4294967296<=q\/4294967296*r+w<q*y0
  . have I2:=I.dec C hd;by_cases hb:4294967296<=q
    . by_cases hr2:4294967296<=r+y1
      . have e:=I2.my C hr2;repeat' first|(apply aef;rfl;rfl;omega)|(apply aed;rfl;rfl;omega)|apply aaQ|apply aa|apply aaf|apply aad|apply abI|apply acH|apply abC|(apply nu;rfl)|apply dP|(apply abz;rfl)|(apply adU;rfl)|(apply adK;rfl;rfl)|(apply aco;rfl;rfl)|(apply abh;rfl;rfl)|(apply abl;rfl;rfl)|(intro _;omega)|intro _
        all_goals try omega
        have:=hQ (r+y1);rw[←e]at this;exact this _
      . repeat' first|(apply aef;rfl;rfl;omega)|(apply aed;rfl;rfl;omega)|apply aaQ|apply aa|apply aaf|apply aad|apply abI|apply abC|apply bE|(apply abz;rfl)|(apply abx;rfl)|(apply adU;rfl)|(apply adK;rfl;rfl)|(apply aco;rfl;rfl)|(apply abh;rfl;rfl)|(apply abl;rfl;rfl)|(intro _;omega)|intro _
        all_goals try omega
        exact gk (ih _ _ _ ac I2 ac)
    . have hm:=fQ.vt (q:=q) C ac hq0;obtain⟨P,hP⟩:∃P,P=q*y0:=⟨_,rfl⟩;rw[←hP]at hd hm;by_cases hr2:4294967296<=r+y1
      . have e:=I2.my C hr2;repeat' first|(apply aef;rfl;rfl;omega)|(apply aed;rfl;rfl;omega)|(apply aeb (a:=4294967296);rfl;rfl;omega)|(apply aeb (a:=q) (b:=y0);rfl;rfl;rw[←hP];exact hm)|apply aaQ|apply aa|apply aaf|apply aad|apply abI|apply acH|apply abC|(apply nu;rfl)|apply dP|(apply abz;rfl)|(apply adb;rfl)|(apply abV;rfl;rfl)|(apply adK;rfl;rfl)|(apply acw;rfl;rfl)|(apply abh;rfl;rfl)|(apply abl;rfl;rfl)|(intro _;omega)|intro _
        all_goals try omega
        have:=hQ (r+y1);rw[←e]at this;exact this _
      . repeat' first|(apply aef;rfl;rfl;omega)|(apply aed;rfl;rfl;omega)|(apply aeb (a:=4294967296);rfl;rfl;omega)|(apply aeb (a:=q) (b:=y0);rfl;rfl;rw[←hP];exact hm)|apply aaQ|apply aa|apply aaf|apply aad|apply abI|apply abC|apply bE|(apply abz;rfl)|(apply abx;rfl)|(apply adb;rfl)|(apply abV;rfl;rfl)|(apply adK;rfl;rfl)|(apply acw;rfl;rfl)|(apply abh;rfl;rfl)|(apply abl;rfl;rfl)|(intro _;omega)|intro _
        all_goals try omega
        exact gk (ih _ _ _ ac I2 ac)
  . have hm:=fQ.vt (q:=q) C ac hq0;have e:=I.exit C ac;obtain⟨P,hP⟩:∃P,P=q*y0:=⟨_,rfl⟩;rw[←hP]at hd hm;repeat' first|(apply aed;rfl;rfl;omega)|(apply aeb (a:=4294967296);rfl;rfl;omega)|(apply aeb (a:=q) (b:=y0);rfl;rfl;rw[←hP];exact hm)|apply aaQ|apply aa|apply aaf|apply aad|apply acH|apply bN|apply dP|(apply abx;rfl)|(apply adb;rfl)|(apply abV;rfl;rfl)|(apply adK;rfl;rfl)|(apply acw;rfl;rfl)|(apply abh;rfl;rfl)|(intro _;omega)|intro _
    all_goals try omega
    have:=hQ r;rw[←e]at this;exact this _
theorem TK (C:jf y1 y0 v w){Q:Ex->au->Prop}(a0 a1 a2 a3 a4 a5 a8 a9 aA aC aE:AV)
 (hQ:∀r lo,Q (.exit 2) ⟨⟨[a0,a1,a2,a3,a4,a5,.uV y1,.uV y0,a8,a9,aA,.uV w,aC,.uV r,aE,.uV ((v*4294967296+w)/(y1*4294967296+y0))],lo,[],[]⟩,[]⟩) :
 ∀(n:Nat) (q r:Int) lo,q.toNat=n->fQ y1 y0 v w q r->r<4294967296->W M (.loop vd) ⟨⟨[a0,a1,a2,a3,a4,a5,.uV y1,.uV y0,a8,a9,aA,.uV w,aC,.uV r,aE,.uV q],lo,[],[]⟩,[]⟩ Q:=by
 have h1:=C.h1;have h0:=C.h0;have hv:=C.hv;have hw:=C.hw;intro n;induction n with
 | zero=>
  intro q r lo hn I hr;have hq0:=I.q0;obtain rfl:q=0:=by omega
  have hr0:=I.r0;have eq:=I.exit C ac;refine W.loop ?_;unfold vd;repeat' first|(apply aeb;rfl;rfl;omega)|(apply aed;rfl;rfl;omega)|apply aaQ|apply aa|apply aaf|apply aad|apply acH|apply bN|apply dP|(apply abx;rfl)|(apply adb;rfl)|(apply abV;rfl;rfl)|(apply adK;rfl;rfl)|(apply acw;rfl;rfl)|(apply abh;rfl;rfl)|(intro _;omega)|intro _
  all_goals try omega
  have:=hQ r;rw[←eq]at this;exact this _
 | succ n ih=>
  intro q r lo hn I hr;have hq0:=I.q0;have hr0:=I.r0;have hql:=I.Iu C;refine W.loop ?_;unfold vd;by_cases hd:4294967296<=q\/4294967296*r+w<q*y0
  . have I2:=I.dec C hd;by_cases hb:4294967296<=q
    . by_cases hr2:4294967296<=r+y1
      . have e:=I2.my C hr2;repeat' first|(apply aef;rfl;rfl;omega)|(apply aed;rfl;rfl;omega)|apply aaQ|apply aa|apply aaf|apply aad|apply abI|apply acH|apply abC|(apply nu;rfl)|apply dP|(apply abz;rfl)|(apply adU;rfl)|(apply adK;rfl;rfl)|(apply aco;rfl;rfl)|(apply abh;rfl;rfl)|(apply abl;rfl;rfl)|(intro _;omega)|intro _
        all_goals try omega
        have:=hQ (r+y1);rw[←e]at this;exact this _
      . repeat' first|(apply aef;rfl;rfl;omega)|(apply aed;rfl;rfl;omega)|apply aaQ|apply aa|apply aaf|apply aad|apply abI|apply abC|apply bE|(apply abz;rfl)|(apply abx;rfl)|(apply adU;rfl)|(apply adK;rfl;rfl)|(apply aco;rfl;rfl)|(apply abh;rfl;rfl)|(apply abl;rfl;rfl)|(intro _;omega)|intro _
        all_goals try omega
        exact gk (ih _ _ _ ac I2 ac)
    . have hm:=fQ.vt (q:=q) C ac hq0;obtain⟨P,hP⟩:∃P,P=q*y0:=⟨_,rfl⟩;rw[←hP]at hd hm;by_cases hr2:4294967296<=r+y1
      . have e:=I2.my C hr2;repeat' first|(apply aef;rfl;rfl;omega)|(apply aed;rfl;rfl;omega)|(apply aeb (a:=4294967296);rfl;rfl;omega)|(apply aeb (a:=q) (b:=y0);rfl;rfl;rw[←hP];exact hm)|apply aaQ|apply aa|apply aaf|apply aad|apply abI|apply acH|apply abC|(apply nu;rfl)|apply dP|(apply abz;rfl)|(apply adb;rfl)|(apply abV;rfl;rfl)|(apply adK;rfl;rfl)|(apply acw;rfl;rfl)|(apply abh;rfl;rfl)|(apply abl;rfl;rfl)|(intro _;omega)|intro _
        all_goals try omega
        have:=hQ (r+y1);rw[←e]at this;exact this _
      . repeat' first|(apply aef;rfl;rfl;omega)|(apply aed;rfl;rfl;omega)|(apply aeb (a:=4294967296);rfl;rfl;omega)|(apply aeb (a:=q) (b:=y0);rfl;rfl;rw[←hP];exact hm)|apply aaQ|apply aa|apply aaf|apply aad|apply abI|apply abC|apply bE|(apply abz;rfl)|(apply abx;rfl)|(apply adb;rfl)|(apply abV;rfl;rfl)|(apply adK;rfl;rfl)|(apply acw;rfl;rfl)|(apply abh;rfl;rfl)|(apply abl;rfl;rfl)|(intro _;omega)|intro _
        all_goals try omega
        exact gk (ih _ _ _ ac I2 ac)
  . have hm:=fQ.vt (q:=q) C ac hq0;have e:=I.exit C ac;obtain⟨P,hP⟩:∃P,P=q*y0:=⟨_,rfl⟩;rw[←hP]at hd hm;repeat' first|(apply aed;rfl;rfl;omega)|(apply aeb (a:=4294967296);rfl;rfl;omega)|(apply aeb (a:=q) (b:=y0);rfl;rfl;rw[←hP];exact hm)|apply aaQ|apply aa|apply aaf|apply aad|apply acH|apply bN|apply dP|(apply abx;rfl)|(apply adb;rfl)|(apply abV;rfl;rfl)|(apply adK;rfl;rfl)|(apply acw;rfl;rfl)|(apply abh;rfl;rfl)|(intro _;omega)|intro _
    all_goals try omega
    have:=hQ r;rw[←e]at this;exact this _
theorem TL {hi lo y:Int}{s:Nat}(hy:0<y)(_hh:0<=hi/\hi<y)(_hl:0<=lo/\lo<18446744073709551616){q R:Int}(h:(hi*18446744073709551616+lo)*2^s=q*(y*2^s)+R)(hR:0<=R/\R<y*2^s) :
 q=(hi*18446744073709551616+lo)/y/\R/2^s=(hi*18446744073709551616+lo)%y:=by
 have hp:=cd (n:=2) (m:=s) am;generalize (2:Int)^s=p at *
 generalize hi*18446744073709551616+lo=N at *
 have e1:R=(N-q*y)*p:=by rw[iK,h,←b7];omega
 have r0:0<=N-q*y:=by
  rcases db (N-q*y) 0 with h'|h'
  . have:=cK h' hp;omega
  . exact h'
 have r1:N-q*y<y:=by
  refine i8 (a:=p) ?_ (bj hp);omega
 have e2:N/y=q:=by
  rw[show N=(N-q*y)+y*q by rw[b8 y q];omega,kM _ _ ac,fF r0 r1];omega
 refine⟨e2.symm,?_⟩;rw[e1,Int.mul_ediv_cancel _ ac,Int.emod_def,e2,b8 y q]
theorem vu {s:Nat}(h:s<=64):(2:Int)^s*2^(64-s)=18446744073709551616:=by
 rw[←d9,show s+(64-s)=64 by omega];rfl
theorem TM (hft:M.FT=FT)(hi lo y:Int)(hy:0<y/\y<18446744073709551616)(hh:0<=hi/\hi<y)(hl:0<=lo/\lo<18446744073709551616)(rL:∀h,M.ext 289 [.uV y] h=some ⟨.iV (64-eo y:Nat),h,[]⟩) :
 bg M 287 [.uV hi,.uV lo,.uV y] [] ⟨.ay [.uV ((hi*18446744073709551616+lo)/y),.uV ((hi*18446744073709551616+lo)%y)],[],[]⟩:=by
 refine bY (by rw[hft];exact Ti) aq ?_;unfold Ik;simp only[enter];by_cases h0:hi=0
 . subst h0;repeat' first|(apply aeJ;rfl;rfl;exact hl;exact hy.1)|(apply afn;rfl;rfl;exact hl.1;exact hy.1)|apply aaQ|apply aa|apply aaf|apply aad|apply abw|apply abC|apply aU|(apply adX;rfl)|(apply abz;rfl)|(apply abx;rfl)|(apply adZ;rfl;rfl)|(apply acR;rfl;rfl)|(apply abh;rfl;rfl)|(apply abl;rfl;rfl)|(intro _;omega)|intro _
   all_goals try omega
   exact⟨.inr rfl,rfl,_,rfl,by rw[Int.zero_mul,ne];rfl,rfl⟩
 . obtain⟨b1,b2,b3⟩:=vo hy.1;have b4:eo y<=64:=BX (n:=64) hy.2 ac;obtain⟨s,hs⟩:∃s:Nat,s=64-eo y:=⟨_,rfl⟩;rw[←hs]at rL;have hs64:s<=63:=by omega
   have hp:=cd (n:=2) (m:=s) am;have hps:=vu (s:=s) ac;have hY1:9223372036854775808<=y*2^s:=by
    have h1:(2:Int)^(eo y-1)*2^s<=y*2^s:=be b2 (bj hp);rw[←d9,show eo y-1+s=63 by omega]at h1;exact m9 am h1
   have hY2:y*2^s<18446744073709551616:=by
    have h1:y*2^s<2^eo y*2^s:=cK b3 hp;rw[←d9,show eo y+s=64 by omega]at h1;exact Int.lt_of_lt_of_le h1 am
   have hhs:0<=hi*2^s/\hi*2^s<y*2^s:=⟨c6 hh.1 (bj hp),cK hh.2 hp⟩;have hp2:=cd (n:=2) (m:=64-s) am;have hlo:0<=lo/2^(64-s)/\lo/2^(64-s)<2^s:=⟨d8 hl.1 (bj hp2),cV hp2 (by rw[hps];exact hl.2)⟩;have hdv:hi*2^s%2^s=0:=jj _ _;have hlos:lo*2^s/18446744073709551616=lo/2^(64-s):=by
    rw[←hps,b8 lo];exact jR _ _ hp
   have hN:(hi*18446744073709551616+lo)*2^s=(hi*2^s+lo/2^(64-s))*18446744073709551616+lo*2^s%18446744073709551616:=by
    rw[←hlos,dr,i9];omega
   have hv:hi*2^s+lo/2^(64-s)<y*2^s:=by
    have h1:(hi*18446744073709551616+lo)*2^s<(y*18446744073709551616)*2^s:=cK ac hp;rw[hN,i9]at h1;omega
   repeat' first|(apply aeG;rfl;omega)|(apply afc (L:=s) (a:=y);rfl;rfl;omega;exact⟨ac,hY2⟩)|(apply afc (L:=s) (a:=hi);rfl;rfl;omega;exact⟨hhs.1,ac⟩)|(apply aeB (n:=32) (c:=4294967296);rfl;rfl;rfl;decide;rfl)|(apply afe;rfl;rfl;omega)|(apply aef (a:=64);rfl;rfl;omega)|(apply aew (n:=64-s) (a:=lo);rfl;rfl;omega;omega)|(apply aff s;rfl;rfl;omega;exact hlo;omega;exact hdv)|(apply aeE (n:=s) (a:=lo);rfl;rfl;rfl;omega)|apply aaQ|apply aa|apply aaf|apply aad|apply abC|(apply abx;rfl)|(apply adZ;rfl;rfl)|(apply acR;rfl;rfl)|(apply abJ;rfl;rfl;first|exact rL _)|(apply abh;rfl;rfl)|(apply abl;rfl;rfl)|(intro _;omega)|intro _
   all_goals try omega
   have fin:=fun q R h=>TL (hi:=hi) (lo:=lo) (y:=y) (s:=s) hy.1 hh hl (q:=q) (R:=R) h
   rw[hN]at fin;have hv0:0<=hi*2^s+lo/2^(64-s):=by omega
   have hu:0<=lo*2^s%18446744073709551616/\lo*2^s%18446744073709551616<18446744073709551616:=by omega
   generalize hi*2^s+lo/2^(64-s)=v at *
   generalize lo*2^s%18446744073709551616=u at *
   generalize y*2^s=Y at *
   have C1:jf (Y/4294967296) (Y%4294967296) v (u/4294967296):=⟨ac,ac,ac,ac⟩;have I1:=fQ.init C1;have m1:0<=v/(Y/4294967296)*(Y/4294967296)/\v/(Y/4294967296)*(Y/4294967296)<=v:=⟨c6 I1.q0 ac,by have:=I1.r0;omega⟩;have r1:v-v/(Y/4294967296)*(Y/4294967296)<4294967296:=by
    have:=fg (x:=v) (k:=Y/4294967296) ac;rw[b8 (Y/4294967296)]at this;omega
   repeat' first|(apply aeJ;rfl;rfl;omega;omega)|(apply aeb (a:=v/(Y/4294967296)) (b:=Y/4294967296);rfl;rfl;omega)|(apply aef;rfl;rfl;omega)|apply aaQ|apply aa|apply aaf|apply aad|apply abI|(apply abh;rfl;rfl)|(apply abl;rfl;rfl)
   refine TH C1 _ _ _ _ _ _ _ _ _ _ _ (fun r lo2=>?_) _ _ _ _ rfl I1 r1;have eY:Y/4294967296*4294967296+Y%4294967296=Y:=by omega
   have hQ:=C1.lt;rw[eY]at hQ ⊢;have hd1:=j9 (v*4294967296+u/4294967296) (show Y≠0 by omega);have hd2:=i6 (v*4294967296+u/4294967296) (show 0<Y by omega);generalize (v*4294967296+u/4294967296)/Y=Q1 at *
   have hR1:∃R,R=v*4294967296+u/4294967296-Q1*Y:=⟨_,rfl⟩;obtain⟨R1,hR1⟩:=hR1;rw[dr,ff]at hd2;have eR:((v*4294967296%18446744073709551616+u/4294967296)%18446744073709551616-Q1*Y%18446744073709551616)%18446744073709551616=R1:=by omega
   have C2:jf (Y/4294967296) (Y%4294967296) R1 (u%4294967296):=⟨ac,ac,ac,ac⟩;have I2:=fQ.init C2;have m2:0<=R1/(Y/4294967296)*(Y/4294967296)/\R1/(Y/4294967296)*(Y/4294967296)<=R1:=⟨c6 I2.q0 ac,by have:=I2.r0;omega⟩;have r2:R1-R1/(Y/4294967296)*(Y/4294967296)<4294967296:=by
    have:=fg (x:=R1) (k:=Y/4294967296) ac;rw[b8 (Y/4294967296)]at this;omega
   repeat' first|(apply aeI;rfl;rfl)|(apply aeH;rfl;rfl)|(apply afd;rfl;rfl)|apply aaQ|apply aa|apply aaf|apply aad|apply bJ|(apply abh;rfl;rfl)|(apply abl;rfl;rfl)
   rw[eR];repeat' first|(apply aeJ;rfl;rfl;omega;omega)|(apply aeb (a:=R1/(Y/4294967296)) (b:=Y/4294967296);rfl;rfl;omega)|(apply aef;rfl;rfl;omega)|apply aaQ|apply aa|apply aaf|apply aad|apply abI|(apply abh;rfl;rfl)|(apply abl;rfl;rfl)
   refine TK C2 _ _ _ _ _ _ _ _ _ _ _ (fun r lo2=>?_) _ _ _ _ rfl I2 r2;have hQ2:=C2.lt;rw[eY]at hQ2 ⊢;have hd3:=j9 (R1*4294967296+u%4294967296) (show Y≠0 by omega);have hd4:=i6 (R1*4294967296+u%4294967296) (show 0<Y by omega);generalize (R1*4294967296+u%4294967296)/Y=Q2 at *
   rw[dr,ff]at hd4;obtain⟨R2,hR2⟩:∃R,R=R1*4294967296+u%4294967296-Q2*Y:=⟨_,rfl⟩;have eR2:((R1*4294967296%18446744073709551616+u%4294967296)%18446744073709551616-Q2*Y%18446744073709551616)%18446744073709551616=R2:=by omega
   obtain⟨f1,f2⟩:=fin (Q1*4294967296+Q2) R2 (by rw[dr,i9 Q1];omega) ac;repeat' first|(apply aeb (a:=Q1) (b:=4294967296);rfl;rfl;omega)|(apply aed (a:=Q1*4294967296) (b:=Q2);rfl;rfl;omega)|(apply aeI;rfl;rfl)|(apply aeH;rfl;rfl)|(apply afd;rfl;rfl)|(apply aew (n:=s);rfl;rfl;rfl;omega)|apply aaQ|apply aa|apply aaf|apply aad|apply abw|apply bJ|(apply abh;rfl;rfl)|(apply abl;rfl;rfl)
   refine⟨.inr rfl,rfl,_,rfl,?_,rfl⟩;rw[←f1,←f2,←eR2];rfl
theorem Iv {hp:ae}{x y:Option bR}:ae.put (hp++[x]) hp.length y=hp++[y]:=by simp[ae.put]
section
variable {t m:Nat} {x y:aO} {l:List aY} {pe:List AV} {lo:List (Nat×AV)} {hp:ae} {df wr:List Nat} {L:List Int} {e:TypeId} {a b:Int} {Q:au->Prop}
theorem aeL (hx:(St.mk pe lo (hp++[some (.cells (an L) e)]) df).ah x=some (.ptr hp.length m))(hy:(St.mk pe lo (hp++[some (.cells (an L) e)]) df).ah y=some (.uV v))(hi:m<L.length)
 (h:WO M l ⟨⟨pe,lo,hp++[some (.cells (an (L.set m v)) e)],df⟩,hp.length::wr⟩ Q):WO M (⟨.no,.store 1 x y,none⟩::l) ⟨⟨pe,lo,hp++[some (.cells (an L) e)],df⟩,wr⟩ Q:=by
 refine aee hx hy bS hi ?_;rw[Iv];exact h
theorem aeM (m:Nat)(hx:(St.mk pe lo hp df).ah x=some (.uV a))(hy:(St.mk pe lo hp df).ah y=some (.uV b))(ha:0<=a/\a<2^m)(hb:0<=b/\b<18446744073709551616)(hm:m<=64)(hd:b%2^m=0)
 (h:WO M l ⟨⟨pe,(t,.uV (a+b))::lo,hp,df⟩,wr⟩ Q):WO M (⟨.l t,.bin .or x y,none⟩::l) ⟨⟨pe,lo,hp,df⟩,wr⟩ Q:=by
 have key:bk ⟨pe,lo,hp,df⟩ (.bin .or x y)=bk ⟨pe,lo,hp,df⟩ (.bin .or y x):=by
  simp only[bk,hx,hy,dy,if_true];rw[BitVec.or_comm]
 obtain⟨⟨k,s',h1,h2⟩⟩:=aff (M:=M) (t:=t) (l:=l) (Q:=Q) m hy hx hb ha hm hd (by rw[nz];exact h);refine⟨⟨k,s',?_,h2⟩⟩;rw[←h1];simp only[fk,eZ,bX,bm.bM,Bool.false_eq_true,if_false,key]
end
theorem TN {hp:ae}{v:AV}{s:au}{x:Option bR}(hh:s.s.hp=hp++[x])(hw:∀z∈s.wr,hp.length<=z)(hv:hp.length<v.top):fW v hp.length s=⟨v,hp++[x],[]⟩:=by
 unfold fW;have hf:s.wr.filter (· < hp.length)=[]:=by
  rw[List.filter_eq_nil_iff];intro z hz;have:=hw z hz;simp;omega
 rw[if_neg (by simp;omega),hh,hf]
theorem Iw (hft:M.FT=FT)(l:List Int)(hl:okW wB l)(ll:l.length<100000000)(s:Nat)(hs:s<=63)(hp:ae) :
 ∃r,(r.length=l.length+1/\okW wB r/\WV wB r=WV wB l*2^s)/\bg M 290 [.vs (an l) l.length c1,.iV s] hp ⟨.sl hp.length 0 (l.length+1) 1 (some (l.length+1)),hp++[some (.cells (an r) 274)],[]⟩:=by
 have hp2:=cd (n:=2) (m:=s) am;have hps:=vu (s:=s) ac;have hp3:=cd (n:=2) (m:=64-s) am;have key:=uE.Hq (M:=M) (f:=290) (ars:=[.vs (an l) l.length c1,.iV s]) (h:=hp) (K:=fun hr=>∃r,(r.length=l.length+1/\okW wB r/\WV wB r=WV wB l*2^s)/\hr=⟨.sl hp.length 0 (l.length+1) 1 (some (l.length+1)),hp++[some (.cells (an r) 274)],[]⟩) (by rw[hft];exact Tc) aq (by
  unfold Ib;simp only[enter];repeat' first|apply aaQ|apply aa|apply aaf|apply aad|apply abI|(apply acS;rfl;rfl;omega)|(apply aeh;rfl;rfl;omega)|(apply abh;rfl;rfl)|(apply abl;rfl;rfl)
  rw[show ((l.length:Int)+1).toNat=l.length+1 by omega];refine W.gn l.length (fun i s'=>∃L a4 a5 lo wr,s'=⟨⟨[.vs (an l) l.length c1,.iV s,.ab,.sl hp.length 0 (l.length+1) 1 (some (l.length+1)),a4,a5,.vs (an l) l.length c1,.iV l.length,.iV i],lo,hp++[some (.cells (an L) 274)],[]⟩,wr⟩ /\
   L.length=l.length+1/\okW wB L/\(∀k,i<k->L[k]! = 0)/\(L[i]! < 2^s)/\WV wB L=WV wB (l.take i)*2^s/\∀z∈wr,hp.length<=z) (fun i s' hi ⟨L,a4,a5,lo,wr,hs',hL,bT,hz,hlt,hv,hw⟩=>?_) (fun s' ⟨L,a4,a5,lo,wr,hs',hL,bT,hz,hlt,hv,hw⟩=>?_) (f7 _)
   ⟨_,_,_,_,_,rfl,aq,km am,fun k _=>kp,by rw[kp];exact hp2,by rw[kn];simp[WV],aq⟩
  . subst hs';have gx:=cj hl hi;rw[show l[i]! = l[((i:Int)).toNat]! from rfl]at gx;obtain⟨x,hx⟩:∃x,x=l[((i:Int)).toNat]! := ⟨_,rfl⟩;rw[←hx]at gx;have gx:0<=x/\x<18446744073709551616:=gx;have gL:=cj bT (i:=i) ac;have gL:0<=L[i]! /\ L[i]! < 18446744073709551616:=gL;have hm:0<=x*2^s%18446744073709551616/\x*2^s%18446744073709551616<18446744073709551616:=by omega
    have hd:x*2^s%18446744073709551616%2^s=0:=by
     rw[Int.emod_emod_of_dvd _ ⟨2^(64-s),hps.symm⟩];exact jj _ _
    have hq:x*2^s/18446744073709551616=x/2^(64-s):=by
     rw[←hps,b8 x];exact jR _ _ hp2
    have hq2:0<=x/2^(64-s)/\x/2^(64-s)<2^s:=⟨d8 gx.1 (bj hp3),cV hp3 (by rw[hps];exact gx.2)⟩;have hsB:(2:Int)^s<=9223372036854775808:=by
     have:=ie (b:=2) am hs;exact m9 this am
    have hsum:L[i]! + x*2^s%18446744073709551616<18446744073709551616:=by
     obtain⟨k,hk⟩:∃k,x*2^s%18446744073709551616=2^s*k:=⟨x*2^s%18446744073709551616/2^s,by have:=f6 (x*2^s%18446744073709551616) (2^s);omega⟩;have hk2:k<2^(64-s):=d7 (a:=2^s) (by rw[←hk,hps];exact hm.2) (bj hp2);have:=aZ (show k+1<=2^(64-s) by omega) (bj hp2);rw[hps,ci,←hk]at this;omega
    have eI:0+((i:Int)).toNat*1=i:=by omega
    have eJ:0+((i:Int)+1).toNat*1=i+1:=by omega
    have fin:∀L':List Int,L'=(L.set i (L[i]! + x*2^s%18446744073709551616)).set (i+1) (x/2^(64-s))->L'.length=l.length+1/\okW wB L'/\(∀k,i+1<k->L'[k]! = 0)/\(L'[i+1]! < 2^s)/\WV wB L'=WV wB (l.take (i+1))*2^s:=fun L' hL'=>by
     subst hL';refine⟨by rw[az,az];exact hL,gq (gq bT ⟨ac,hsum⟩) ⟨hq2.1,by show _<(18446744073709551616:Int);omega⟩,fun k hk=>by rw[gV ac,gV ac];exact hz k ac,by rw[vi (by rw[az];omega)];exact hq2.2,?_⟩;rw[gr (by rw[az];omega),gV ac,hz (i+1) ac,gr ac,fo hi,hv,←hq,ce];have e1:x*2^s=x*2^s%18446744073709551616+18446744073709551616*(x*2^s/18446744073709551616):=by omega
     have e2:l[i]! = x:=hx.symm;rw[e2,dr,b7 _ x];have e3:wB^i*(x*2^s)=wB^i*(x*2^s%18446744073709551616)+wB^i*(18446744073709551616*(x*2^s/18446744073709551616)):=by rw[←ci,←e1]
     rw[e3,show L[i]! + x*2^s%18446744073709551616-L[i]! = x*2^s%18446744073709551616 by omega,gc,b7 (wB^i) wB];exact li _ _ _
    have eset:¬(0:Int)<s->L.set i (L[i]! + x*2^s%18446744073709551616)=(L.set i (L[i]! + x*2^s%18446744073709551616)).set (i+1) (x/2^(64-s)):=fun h0=>by
     have hs0:s=0:=by omega
     have hx0:x/2^(64-s)=0:=by
      rw[hs0];exact fF gx.1 gx.2
     have h1:(L.set i (L[i]! + x*2^s%18446744073709551616))[i+1]! = 0:=by rw[gV ac];exact hz (i+1) ac
     have h2:i+1<(L.set i (L[i]! + x*2^s%18446744073709551616)).length:=by rw[az];omega
     rw[getElem!_pos (L.set i (L[i]! + x*2^s%18446744073709551616)) (i+1) h2]at h1;rw[hx0];exact((congrArg (fun z=>(L.set i (L[i]! + x*2^s%18446744073709551616)).set (i+1) z) h1.symm).trans (List.set_getElem_self h2)).symm
    subst hx;unfold BM;by_cases h0:(0:Int)<s
    . repeat' first|(apply aem;exact congrArg (fun z=>some (AV.ptr hp.length z)) eI;exact bS;omega)|(apply aeE (n:=s);rfl;rfl;rfl;omega)|(apply aeM s;rfl;rfl;exact⟨gL.1,hlt⟩;exact hm;omega;exact hd)|(apply aeL;exact congrArg (fun z=>some (AV.ptr hp.length z)) eI;rfl;omega)|(apply aeL;exact congrArg (fun z=>some (AV.ptr hp.length z)) eJ;rfl;(rw[az];omega))|(apply aew (n:=64-s);rfl;rfl;omega;omega)|apply aaQ|apply aa|apply aaf|apply aad|apply abI|apply abC|apply bE|apply adr|apply adI|(apply adO;rfl)|(apply adJ;rfl;rfl;(first|(simp only[nca];rfl)|rfl))|(apply adW;rfl;(first|(simp only[nca];rfl)|rfl);(first|(simp only[nca];rfl)|rfl))|(apply abz;rfl)|(apply abR;rfl;rfl)|(apply abV;rfl;rfl)|(apply acS;rfl;rfl;omega)|(apply adj;rfl;rfl;omega)|(apply adp;rfl;rfl;omega)|(apply adP;rfl;rfl;omega)|(apply adL;rfl;exact fun _=>rfl;(first|omega|(simp only[az];omega)|(simp;omega));decide;rfl;case ia=>infer_instance)|(apply abh;rfl;rfl)|(apply abl;rfl;rfl)|(intro _;omega)|intro _
      all_goals try omega
      obtain⟨f1,f2,f3,f4,f5⟩:=fin _ rfl;exact cW ⟨_,_,_,_,_,rfl,f1,f2,f3,f4,f5,by intro z hz';simp at hz';rcases hz' with rfl|hz';exact bc _;exact hw z hz'⟩
    . repeat' first|(apply aem;exact congrArg (fun z=>some (AV.ptr hp.length z)) eI;exact bS;omega)|(apply aeE (n:=s);rfl;rfl;rfl;omega)|(apply aeM s;rfl;rfl;exact⟨gL.1,hlt⟩;exact hm;omega;exact hd)|(apply aeL;exact congrArg (fun z=>some (AV.ptr hp.length z)) eI;rfl;omega)|apply aaQ|apply aa|apply aaf|apply aad|apply abI|apply abC|apply bE|apply adr|apply adI|(apply adO;rfl)|(apply adJ;rfl;rfl;(first|(simp only[nca];rfl)|rfl))|(apply adW;rfl;(first|(simp only[nca];rfl)|rfl);(first|(simp only[nca];rfl)|rfl))|(apply abz;rfl)|(apply abx;rfl)|(apply abR;rfl;rfl)|(apply abV;rfl;rfl)|(apply acS;rfl;rfl;omega)|(apply adp;rfl;rfl;omega)|(apply adP;rfl;rfl;omega)|(apply adL;rfl;exact fun _=>rfl;(first|omega|(simp only[az];omega)|(simp;omega));decide;rfl;case ia=>infer_instance)|(apply abh;rfl;rfl)|(apply abl;rfl;rfl)|(intro _;omega)|intro _
      all_goals try omega
      obtain⟨f1,f2,f3,f4,f5⟩:=fin _ (eset h0);exact cW ⟨_,_,_,_,_,rfl,f1,f2,f3,f4,f5,by intro z hz';simp at hz';rcases hz' with rfl|hz';exact bc _;exact hw z hz'⟩
  . subst hs';rw[dU]at hv;unfold BM;repeat' first|apply aaQ|apply aa|apply aaf|apply aad|apply abw|apply acH|apply bN|apply bJ|apply cX|(apply abx;rfl)|(apply abR;rfl;rfl)|(apply abh;rfl;rfl)|(apply abl;rfl;rfl)|(intro _;omega)|intro _
    all_goals try omega
    exact⟨.inr rfl,_,rfl,_,rfl,L,⟨hL,bT,hv⟩,TN rfl hw (by simp[aV,AV.top])⟩)
 obtain⟨hr,h1,r,h2,rfl⟩:=key.out;exact⟨r,h2,h1⟩
end Go.Ab.Ch5.N

/-
  Own work: Knuth's division: the guess of a digit is at most one too great.
-/
namespace Go.Ab.aX
structure jg (t2 t1 t0 v1 v0 T V p:Int):Prop where
 h2:0<=t2
 h1:0<=t1/\t1<18446744073709551616
 h0:0<=t0/\t0<18446744073709551616
 w1:9223372036854775808<=v1/\v1<18446744073709551616
 w0:0<=v0/\v0<18446744073709551616
 hp:1<=p
 lo:((t2*18446744073709551616+t1)*18446744073709551616+t0)*p<=T
 hi:T<((t2*18446744073709551616+t1)*18446744073709551616+t0+1)*p
 pR:(v1*18446744073709551616+v0)*p<=V
 rM:V<(v1*18446744073709551616+v0+1)*p
 hT:T<18446744073709551616*V
structure ik (t2 t1 v1 T V q r:Int):Prop where
 q0:0<=q/\q<18446744073709551616
 r0:0<=r
 e:q*v1+r=t2*18446744073709551616+t1
 ge:T<(q+1)*V
variable {t2 t1 t0 v1 v0 T V p q r:Int}
theorem jg.top (C:jg t2 t1 t0 v1 v0 T V p):t2<=v1:=by
 have h1:=C.h1;have h0:=C.h0;have w0:=C.w0;have a1:((t2*18446744073709551616+t1)*18446744073709551616+t0)*p<(18446744073709551616*(v1*18446744073709551616+v0+1))*p:=by
  have:=C.lo;have:=C.hT;have:=C.rM;rw[b7 18446744073709551616];omega
 have a2:=i8 a1 (by have:=C.hp;omega);omega
theorem jg.geq (C:jg t2 t1 t0 v1 v0 T V p)(h0:0<=q)(h:(t2*18446744073709551616+t1)*18446744073709551616+t0+1<=q*(v1*18446744073709551616+v0)):T<q*V:=by
 have hp:=C.hp;have a1:=be h (show 0<=p by omega);have a2:=aZ C.pR h0;rw[←b7]at a2;have:=C.hi;omega
theorem ik.qD (I:ik t2 t1 v1 T V q r):q*(v1*18446744073709551616+v0)=(t2*18446744073709551616+t1-r)*18446744073709551616+q*v0:=by
 have e:=I.e;have:t2*18446744073709551616+t1-r=q*v1:=by omega
 rw[this,ci,b7]
theorem ik.TO (C:jg t2 t1 t0 v1 v0 T V p)(h:v1<=t2):ik t2 t1 v1 T V 18446744073709551615 (t1+v1):=by
 have:=C.top;have:=C.h1;have:=C.w1;have:=C.hT;exact⟨ac,ac,ac,ac⟩
theorem ik.TP (C:jg t2 t1 t0 v1 v0 T V p)(h:t2<v1):ik t2 t1 v1 T V ((t2*18446744073709551616+t1)/v1) ((t2*18446744073709551616+t1)%v1):=by
 have h2:=C.h2;have h1:=C.h1;have w1:=C.w1;have h0:=C.h0;have w0:=C.w0;have q0:0<=(t2*18446744073709551616+t1)/v1:=d8 ac ac;have q1:(t2*18446744073709551616+t1)/v1<18446744073709551616:=cV ac ac;have e:=f6 (t2*18446744073709551616+t1) v1;have r0:=i7 (t2*18446744073709551616+t1) (show v1≠0 by omega);have r1:=gU (t2*18446744073709551616+t1) (show 0<v1 by omega);rw[b8]at e;refine⟨⟨q0,q1⟩,r0,e,C.geq ac ?_⟩;generalize (t2*18446744073709551616+t1)/v1=q at *
 generalize (t2*18446744073709551616+t1)%v1=r at *
 have a1:(q+1)*(v1*18446744073709551616+v0)=(q*v1+v1)*18446744073709551616+(q+1)*v0:=by grind
 have a2:0<=(q+1)*v0:=c6 ac w0.1;rw[a1];generalize q*v1=z at *
 generalize (q+1)*v0=y at *
 omega
theorem ik.dec (C:jg t2 t1 t0 v1 v0 T V p)(I:ik t2 t1 v1 T V q r)(h:r*18446744073709551616+t0<q*v0):ik t2 t1 v1 T V (q-1) (r+v1):=by
 have w1:=C.w1;have q0:=I.q0;have r0:=I.r0;have h0:=C.h0;have q1:0<q:=by
  rcases db 0 q with h'|h'
  . exact h'
  . obtain rfl:q=0:=by omega
    omega
 refine⟨ac,ac,by have:=I.e;rw[iK];omega,?_⟩;rw[Int.sub_add_cancel];refine C.geq ac ?_;rw[I.qD];omega
theorem ik.exit (C:jg t2 t1 t0 v1 v0 T V p)(I:ik t2 t1 v1 T V q r)(h:q*v0<=r*18446744073709551616+t0):(q-1)*V<=T:=by
 have w1:=C.w1;have q0:=I.q0;have r0:=I.r0;have w0:=C.w0;have hp:=C.hp;have a1:q*(v1*18446744073709551616+v0)<=(t2*18446744073709551616+t1)*18446744073709551616+t0:=by rw[I.qD];omega
 have a2:=be a1 (show 0<=p by omega);have a3:=aZ (bj C.rM) q0.1;have a4:q*((v1*18446744073709551616+v0+1)*p)=q*(v1*18446744073709551616+v0)*p+q*p:=by grind
 have a5:=be (show q<=18446744073709551616 by omega) (show 0<=p by omega);have a6:=be (show 18446744073709551616<=v1*18446744073709551616+v0 by omega) (show 0<=p by omega);have a7:=C.pR;have a8:=C.lo;rw[iK,ff];omega
theorem ik.my (C:jg t2 t1 t0 v1 v0 T V p)(I:ik t2 t1 v1 T V q r)(h:18446744073709551616<=r):(q-1)*V<=T:=by
 have q0:=I.q0;have w0:=C.w0;have h0:=C.h0;refine I.exit C ?_;have h3:=ip (a:=q) (b:=v0) (c:=18446744073709551615) (d:=18446744073709551615) ac ac w0.1 ac;omega
theorem jQ {b:Int}{l:List Int}{n:Nat}(h:l.length=n+1):WV b l=WV b (l.take n)+b^n*l[n]! := by
 have:=fo (b:=b) (l:=l) (i:=n) ac;rwa [aW ac]at this
theorem jg.of {X V:List Int}{n:Nat}(hX:X.length=n+3)(hV:V.length=n+2)(oX:okW 18446744073709551616 X)(oV:okW 18446744073709551616 V)(hv:9223372036854775808<=V[n+1]!)(hT:WV 18446744073709551616 X<18446744073709551616*WV 18446744073709551616 V) :
 jg X[n+2]! X[n+1]! X[n]! V[n+1]! V[n]! (WV 18446744073709551616 X) (WV 18446744073709551616 V) (18446744073709551616^n):=by
 have x2:=cj oX (i:=n+2) ac;have x1:=cj oX (i:=n+1) ac;have x0:=cj oX (i:=n) ac;have v1:=cj oV (i:=n+1) ac;have v0:=cj oV (i:=n) ac;have eX:WV 18446744073709551616 X=WV 18446744073709551616 (X.take n)+((X[n+2]! * 18446744073709551616+X[n+1]!)*18446744073709551616+X[n]!)*18446744073709551616^n:=by
  rw[jQ (n:=n+2) ac,fo ac,fo ac,ce,ce];grind
 have eV:WV 18446744073709551616 V=WV 18446744073709551616 (V.take n)+(V[n+1]! * 18446744073709551616+V[n]!)*18446744073709551616^n:=by
  rw[jQ (n:=n+1) ac,fo ac,ce];grind
 have lX:=dz (b:=18446744073709551616) am (dL oX n);have lV:=dz (b:=18446744073709551616) am (dL oV n);have pX:=cA (b:=18446744073709551616) am (dL oX n);have pV:=cA (b:=18446744073709551616) am (dL oV n);rw[b5,c7 ac]at lX lV;have hp:(0:Int)<18446744073709551616^n:=cd am;refine⟨x2.1,x1,x0,⟨hv,v1.2⟩,v0,ac,ac,?_,ac,?_,hT⟩
 . rw[dr _ 1,ff];omega
 . rw[dr _ 1,ff];omega
end Go.Ab.aX

/-
  Own work: words of integers: a digit of a quotient (Knuth's step): the loops.
-/
namespace Go.Ab.Ch5.N
open Go.Ab.aX
variable {M:ax} {cu cv:Option Nat}
def di (hp:ae)(b:Nat)(e:TypeId)(P S X:List Int):ae:=hp.put b (some (.cells (an (P++X++S)) e))
theorem Ix {hp:ae}{b:Nat}{e:TypeId}{P S X:List Int}:(di hp b e P S X).length=hp.length:=ny
theorem Ca {P X S:List Int}{i:Nat}(hi:i<X.length):(P++X++S)[P.length+i]! = X[i]! := by
 simp only[b6];rw[dh,List.getElem?_append_right ac,show P.length+i-P.length=i by omega,ja hi]
theorem Iy {P X S:List Int}{i:Nat}{v:Int}(hi:i<X.length):(P++X++S).set (P.length+i) v=P++X.set i v++S:=by
 rw[dh,List.set_append_right _ _ ac,show P.length+i-P.length=i by omega,List.set_append_left _ _ hi,dh]
section
variable {t bu bv m:Nat} {x y:aO} {l:List aY} {pe:List AV} {lo:List (Nat×AV)} {hp:ae} {df wr:List Nat} {P S X V Y:List Int} {e e':TypeId} {v:Int} {Q:au->Prop}
theorem aei {i:Nat}(hx:(St.mk pe lo (di hp bu e P S X) df).ah x=some (.ptr bu m))(hl:bu<hp.length)(hi:i<X.length)(hm:m=P.length+i)
 (h:WO M l ⟨⟨pe,(t,.uV X[i]!)::lo,di hp bu e P S X,df⟩,wr⟩ Q):WO M (⟨.l t,.load 1 false x,none⟩::l) ⟨⟨pe,lo,di hp bu e P S X,df⟩,wr⟩ Q:=by
 subst hm;refine aem (L:=P++X++S) (e:=e) hx (by unfold di;exact cJ hl) (by simp;omega) ?_;rw[Ca hi];exact h
theorem vv {Y:Option bR}(hne:bu≠bv):(hp.put bu Y).at bv=hp.at bv:=by
 unfold ae.at ae.put;rw[k9 hne]
theorem aep {i:Nat}(hx:(St.mk pe lo (di hp bu e P S X) df).ah x=some (.ptr bv m))(hb:hp.at bv=some (.cells (an (V++Y)) e'))(hne:bu≠bv)(hi:i<V.length)(hm:m=i)
 (h:WO M l ⟨⟨pe,(t,.uV V[i]!)::lo,di hp bu e P S X,df⟩,wr⟩ Q):WO M (⟨.l t,.load 1 false x,none⟩::l) ⟨⟨pe,lo,di hp bu e P S X,df⟩,wr⟩ Q:=by
 subst hm;refine aem (L:=V++Y) (e:=e') hx (by unfold di;rw[vv hne];exact hb) (by rw[List.length_append];omega) ?_;have:(V++Y)[m]! = V[m]! := by
  simp only[b6];rw[ja hi]
 rw[this];exact h
theorem aeC {i:Nat}(hx:(St.mk pe lo (di hp bu e P S X) df).ah x=some (.ptr bu m))(hy:(St.mk pe lo (di hp bu e P S X) df).ah y=some (.uV v))(hl:bu<hp.length)(hi:i<X.length)(hm:m=P.length+i)
 (h:WO M l ⟨⟨pe,lo,di hp bu e P S (X.set i v),df⟩,bu::wr⟩ Q):WO M (⟨.no,.store 1 x y,none⟩::l) ⟨⟨pe,lo,di hp bu e P S X,df⟩,wr⟩ Q:=by
 subst hm;refine aee (L:=P++X++S) (e:=e) hx hy (by unfold di;exact cJ hl) (by simp;omega) ?_;rw[Iy hi];have:ae.put (di hp bu e P S X) bu (some (.cells (an (P++X.set i v++S)) e))=di hp bu e P S (X.set i v):=by unfold di;exact Hl
 rw[this];exact h
end
variable {bu bv k:Nat} {e e':TypeId} {hp:ae} {P S X V Y:List Int}
theorem Iz (C:mw M)(hl:bu<hp.length)(hne:bu≠bv)(hb:hp.at bv=some (.cells (an (V++Y)) e'))(lk:k<10000000)(hX:X.length=k+3)(hV:V.length=k+2)
 {t2 t1 T D p:Int} (K:jg t2 t1 X[k]! V[k+1]! V[k]! T D p) {Q:Ex->au->Prop} (a2 a9 aA aB aC aD aE aF aG aH aI aJ aK:AV) (wr:List Nat)
 (hQ:∀(q rh ov:Int) a7 a8 lo,(0<=q/\q<18446744073709551616)->T<(q+1)*D->(q-1)*D<=T ->
   Q (.exit 0) ⟨⟨[.sl bu P.length (k+3) 1 cu,.sl bv 0 (k+2) 1 cv,a2,.iV ((k+2:Nat):Int),.uV q,.uV rh,.uV ov,a7,a8,a9,aA,aB,aC,aD,aE,aF,aG,aH,aI,aJ,aK],lo,di hp bu e P S X,[]⟩,wr⟩)
 (q rh ov:Int) (a7 a8:AV) (lo:List (Nat×AV)) (I:ik t2 t1 V[k+1]! T D q (rh+18446744073709551616*ov)) (hrh:0<=rh/\rh<18446744073709551616) (hov:0<=ov/\ov<=1) :
 W M (.loop BO) ⟨⟨[.sl bu P.length (k+3) 1 cu,.sl bv 0 (k+2) 1 cv,a2,.iV ((k+2:Nat):Int),.uV q,.uV rh,.uV ov,a7,a8,a9,aA,aB,aC,aD,aE,aF,aG,aH,aI,aJ,aK],lo,di hp bu e P S X,[]⟩,wr⟩ Q:=by
 refine W.gH (fun m s=>∃q rh ov a7 a8 lo,s=⟨⟨[.sl bu P.length (k+3) 1 cu,.sl bv 0 (k+2) 1 cv,a2,.iV ((k+2:Nat):Int),.uV q,.uV rh,.uV ov,a7,a8,a9,aA,aB,aC,aD,aE,aF,aG,aH,aI,aJ,aK],lo,di hp bu e P S X,[]⟩,wr⟩ /\
  m=q.toNat/\ik t2 t1 V[k+1]! T D q (rh+18446744073709551616*ov)/\(0<=rh/\rh<18446744073709551616)/\(0<=ov/\ov<=1)) (fun m s ⟨q,rh,ov,a7,a8,lo,hs,hm,I,hrh,hov⟩=>?_) (m:=q.toNat) ⟨q,rh,ov,a7,a8,lo,rfl,rfl,I,hrh,hov⟩
 subst hs;subst hm;have q0:=I.q0;have w0:=K.w0;have w1:=K.w1;have t0:=K.h0;unfold BO;by_cases ho:ov=0
 . subst ho;rw[cN,d6]at I;have q259:=fun h=>C.nN q V[k]! h q0 w0
   obtain⟨m,hm⟩:∃m,m=q*V[k]! := ⟨_,rfl⟩;have hmb:=vn q0 w0;rw[←hm]at q259 hmb;by_cases ht:m<=rh*18446744073709551616+X[k]!
   . have hfin:=I.exit K (by rw[←hm];exact ht);repeat' first|(apply aei (i:=k);rfl;exact hl;omega;omega)|(apply aep (i:=k);rfl;exact hb;exact hne;omega;omega)|apply aaQ|apply aa|apply aaf|apply aad|apply abI|apply acH|apply abC|apply bN|(apply nu;rfl)|apply cX|(apply abz;rfl)|(apply acF;rfl)|(apply adb;rfl)|(apply adU;rfl)|(apply aej;rfl)|(apply abR;rfl;rfl)|(apply adZ;rfl;rfl)|(apply acR;rfl;rfl)|(apply aco;rfl;rfl)|(apply acw;rfl;rfl)|(apply adj;rfl;rfl;omega)|(apply abJ;rfl;rfl;first|exact q259 _)|(apply adP;rfl;rfl;omega)|(apply abh;rfl;rfl)|(apply abl;rfl;rfl)|(intro _;omega)|intro _
     all_goals try omega
     all_goals exact hQ _ _ _ _ _ _ q0 I.ge hfin
   . have I2:=I.dec K (by rw[←hm];omega);have q310:=fun h=>C.mr rh V[k+1]! 0 h ac ac am am
     have e1:(rh+V[k+1]! + 0)%18446744073709551616+18446744073709551616*((rh+V[k+1]! + 0)/18446744073709551616)=rh+V[k+1]! := by omega
     have i0:=I2.q0;repeat' first|(apply aei (i:=k);rfl;exact hl;omega;omega)|(apply aep (i:=k);rfl;exact hb;exact hne;omega;omega)|(apply aep (i:=k+1);rfl;exact hb;exact hne;omega;omega)|(apply aef;rfl;rfl;omega)|apply aaQ|apply aa|apply aaf|apply aad|apply abI|apply abC|apply bE|(apply abz;rfl)|(apply abx;rfl)|(apply acF;rfl)|(apply adb;rfl)|(apply adu;rfl)|(apply abR;rfl;rfl)|(apply adZ;rfl;rfl)|(apply acR;rfl;rfl)|(apply aco;rfl;rfl)|(apply acw;rfl;rfl)|(apply adj;rfl;rfl;omega)|(apply abJ;rfl;rfl;first|exact q259 _|exact q310 _)|(apply adP;rfl;rfl;omega)|(apply abh;rfl;rfl)|(apply abl;rfl;rfl)|(intro _;omega)|intro _
     all_goals try omega
     all_goals exact cW ⟨(q-1).toNat,ac,q-1,_,_,_,_,_,rfl,rfl,by rw[e1];exact I2,ac,ac⟩
 . have h1:ov=1:=by omega
   subst h1;have hfin:=I.my K ac;repeat' first|apply aaQ|apply aa|apply aaf|apply aad|apply acH|apply bN|apply cX|(apply abx;rfl)|(apply acR;rfl;rfl)|(apply abh;rfl;rfl)|(intro _;omega)|intro _
   all_goals try omega
   all_goals exact hQ _ _ _ _ _ _ q0 I.ge hfin
theorem TT (C:mw M)(hl:bu<hp.length)(hne:bu≠bv)(hb:hp.at bv=some (.cells (an (V++Y)) e'))(lk:k<10000000)(hX:X.length=k+3)(oX:okW wB X)(hV:V.length=k+2)(oV:okW wB V)
 (q:Int) (q0:0<=q/\q<18446744073709551616) {Q:Ex->au->Prop} (a2 a5 a6 a7 a8 aB aC aD aE aF aG aJ aK:AV) (lo:List (Nat×AV))
 (hQ:∀L (bo ca:Int) aB aC aD aE lo wr,L.length=k+3->okW wB L->L[k+2]! = X[k+2]! -> (0<=bo/\bo<=1)->(0<=ca/\ca<18446744073709551616)->(∀z∈wr,z=bu)->WV wB L=WV wB X-q*WV wB V+wB^(k+2)*(ca+bo) ->
   Q (.exit 2) ⟨⟨[.sl bu P.length (k+3) 1 cu,.sl bv 0 (k+2) 1 cv,a2,.iV ((k+2:Nat):Int),.uV q,a5,a6,a7,a8,.uV bo,.uV ca,aB,aC,aD,aE,aF,aG,.iV ((k+2:Nat):Int),.iV ((k+2:Nat):Int),aJ,aK],lo,di hp bu e P S L,[]⟩,wr⟩) :
 W M (.loop rG) ⟨⟨[.sl bu P.length (k+3) 1 cu,.sl bv 0 (k+2) 1 cv,a2,.iV ((k+2:Nat):Int),.uV q,a5,a6,a7,a8,.uV 0,.uV 0,aB,aC,aD,aE,aF,aG,.iV ((k+2:Nat):Int),.iV 0,aJ,aK],lo,di hp bu e P S X,[]⟩,[]⟩ Q:=by
 refine W.gn (k+2) (fun i s=>∃L bo ca aB aC aD aE lo wr,s=⟨⟨[.sl bu P.length (k+3) 1 cu,.sl bv 0 (k+2) 1 cv,a2,.iV ((k+2:Nat):Int),.uV q,a5,a6,a7,a8,.uV bo,.uV ca,aB,aC,aD,aE,aF,aG,.iV ((k+2:Nat):Int),.iV i,aJ,aK],lo,di hp bu e P S L,[]⟩,wr⟩ /\
  L.length=k+3/\okW wB L/\L[k+2]! = X[k+2]! /\ (0<=bo/\bo<=1)/\(0<=ca/\ca<18446744073709551616)/\(∀z∈wr,z=bu)/\WV wB L=WV wB X-q*WV wB (V.take i)+wB^i*(ca+bo)) (fun i s hi ⟨L,bo,ca,aB,aC,aD,aE,lo,wr,hs,hL,oL,ht,hbo,hca,hw,hv⟩=>?_) (fun s ⟨L,bo,ca,aB,aC,aD,aE,lo,wr,hs,hL,oL,ht,hbo,hca,hw,hv⟩=>?_) (f7 _)
  ⟨_,_,_,_,_,_,_,_,_,rfl,hX,oX,rfl,⟨am,am⟩,⟨am,am⟩,aq,by simp[WV]⟩
 . subst hs;have gy:=cj oV (i:=i) ac;obtain⟨y,hy⟩:∃y,y=V[i]! := ⟨_,rfl⟩;rw[←hy]at gy;have gy:0<=y/\y<18446744073709551616:=gy;have gL:=cj oL (i:=i) ac;obtain⟨u,hu⟩:∃u,u=L[i]! := ⟨_,rfl⟩;rw[←hu]at gL;have gL:0<=u/\u<18446744073709551616:=gL;have q259:=fun h=>C.nN q y h q0 gy
   have hm:=vn q0 gy;obtain⟨m,hmm⟩:∃m,m=q*y:=⟨_,rfl⟩;rw[←hmm]at q259 hm;have q310:=fun h=>C.mr (m%18446744073709551616) ca 0 h ac hca.1 am am
   obtain⟨S1,hS1⟩:∃S1,S1=(m%18446744073709551616+ca+0)%18446744073709551616:=⟨_,rfl⟩;obtain⟨S2,hS2⟩:∃S2,S2=(m%18446744073709551616+ca+0)/18446744073709551616:=⟨_,rfl⟩;rw[←hS1,←hS2]at q310;obtain⟨D,hD⟩:∃D:Int,D=if u<S1+bo then 1 else 0:=⟨_,rfl⟩
   have q330:=fun h=>C.vk u S1 bo h gL.1 gL.2 ac ac hbo.1 hbo.2
   obtain⟨d,hd⟩:∃d,d=(u-S1-bo)%18446744073709551616:=⟨_,rfl⟩;rw[←hD,←hd]at q330;have hD2:0<=D/\D<=1/\u-S1-bo=d-18446744073709551616*D/\0<=d/\d<18446744073709551616:=by
    rw[hD];split <;> omega
   have hC2:(0<=m/18446744073709551616+S2/\m/18446744073709551616+S2<18446744073709551616)/\m+ca=S1+18446744073709551616*(m/18446744073709551616+S2):=by omega
   obtain⟨c2,hc2⟩:∃c2,c2=m/18446744073709551616+S2:=⟨_,rfl⟩;have next:∀aB aC aD aE lo,LI (fun s=>∃L bo ca aB aC aD aE lo wr,s=⟨⟨[.sl bu P.length (k+3) 1 cu,.sl bv 0 (k+2) 1 cv,a2,.iV ((k+2:Nat):Int),.uV q,a5,a6,a7,a8,.uV bo,.uV ca,aB,aC,aD,aE,aF,aG,.iV ((k+2:Nat):Int),.iV ((i+1:Nat):Int),aJ,aK],lo,di hp bu e P S L,[]⟩,wr⟩ /\
    L.length=k+3/\okW wB L/\L[k+2]! = X[k+2]! /\ (0<=bo/\bo<=1)/\(0<=ca/\ca<18446744073709551616)/\(∀z∈wr,z=bu)/\WV wB L=WV wB X-q*WV wB (V.take (i+1))+wB^(i+1)*(ca+bo)) Q .normal ⟨⟨[.sl bu P.length (k+3) 1 cu,.sl bv 0 (k+2) 1 cv,a2,.iV ((k+2:Nat):Int),.uV q,a5,a6,a7,a8,.uV D,.uV (m/18446744073709551616+S2),aB,aC,aD,aE,aF,aG,.iV ((k+2:Nat):Int),.iV ((i:Int)+1),aJ,aK],lo,di hp bu e P S (L.set i d),[]⟩,bu::wr⟩:=fun aB aC aD aE lo=>
    cW ⟨_,_,_,aB,aC,aD,aE,lo,_,rfl,by rw[az];exact hL,gq oL hD2.2.2.2,by rw[gV ac];exact ht,⟨hD2.1,hD2.2.1⟩,hC2.1,by simpa using hw,by
     rw[gr ac,←hu,fo ac,←hy,hv,ce];have e1:d-u=18446744073709551616*D+18446744073709551616*(m/18446744073709551616+S2)-q*y-ca-bo:=by rw[←hmm];omega
     rw[e1,←hc2];show _+wB^i*(18446744073709551616*D+18446744073709551616*c2-q*y-ca-bo)=_-_+wB^i*18446744073709551616*(c2+D);grind⟩
   rw[hy]at q259;rw[hu]at q330;unfold rG;repeat' first|(apply aei (i:=i);rfl;exact hl;omega;omega)|(apply aep (i:=i);rfl;exact hb;exact hne;omega;omega)|(apply aeC (i:=i);rfl;rfl;exact hl;omega;omega)|(apply aed (a:=m/18446744073709551616);rfl;rfl;omega)|apply aaQ|apply aa|apply aaf|apply aad|apply abI|apply abC|apply bE|(apply abz;rfl)|(apply abR;rfl;rfl)|(apply acS;rfl;rfl;omega)|(apply abJ;rfl;rfl;first|exact q259 _|exact q310 _|exact q330 _)|(apply adP;rfl;rfl;omega)|(apply abh;rfl;rfl)|(apply abl;rfl;rfl)|(intro _;omega)|intro _
   all_goals try omega
   all_goals exact next _ _ _ _ _
 . subst hs;rw[aW ac]at hv;unfold rG;repeat' first|apply aaQ|apply aa|apply aaf|apply aad|apply acH|apply bN|apply cX|(apply abx;rfl)|(apply abR;rfl;rfl)|(intro _;omega)|intro _
   all_goals try omega
   exact hQ L bo ca _ _ _ _ _ _ hL oL ht hbo hca hw hv
theorem TU (C:mw M)(hl:bu<hp.length)(hne:bu≠bv)(hb:hp.at bv=some (.cells (an (V++Y)) e'))(lk:k<10000000)(hX:X.length=k+3)(oX:okW wB X)(hV:V.length=k+2)(oV:okW wB V)
 {Q:Ex->au->Prop} (a2 a4 a5 a6 a7 a8 a9 aA aB aC aD aE aG aH aI:AV) (lo:List (Nat×AV)) (wr:List Nat) (hwr:∀z∈wr,z=bu)
 (hQ:∀L (ca:Int) aG lo wr,L.length=k+3->okW wB L->L[k+2]! = X[k+2]! -> (0<=ca/\ca<=1)->(∀z∈wr,z=bu)->WV wB L+wB^(k+2)*ca=WV wB X+WV wB V ->
   Q (.exit 4) ⟨⟨[.sl bu P.length (k+3) 1 cu,.sl bv 0 (k+2) 1 cv,a2,.iV ((k+2:Nat):Int),a4,a5,a6,a7,a8,a9,aA,aB,aC,aD,aE,.uV ca,aG,aH,aI,.iV ((k+2:Nat):Int),.iV ((k+2:Nat):Int)],lo,di hp bu e P S L,[]⟩,wr⟩) :
 W M (.loop rH) ⟨⟨[.sl bu P.length (k+3) 1 cu,.sl bv 0 (k+2) 1 cv,a2,.iV ((k+2:Nat):Int),a4,a5,a6,a7,a8,a9,aA,aB,aC,aD,aE,.uV 0,aG,aH,aI,.iV ((k+2:Nat):Int),.iV 0],lo,di hp bu e P S X,[]⟩,wr⟩ Q:=by
 refine W.gn (k+2) (fun i s=>∃L ca aG lo wr,s=⟨⟨[.sl bu P.length (k+3) 1 cu,.sl bv 0 (k+2) 1 cv,a2,.iV ((k+2:Nat):Int),a4,a5,a6,a7,a8,a9,aA,aB,aC,aD,aE,.uV ca,aG,aH,aI,.iV ((k+2:Nat):Int),.iV i],lo,di hp bu e P S L,[]⟩,wr⟩ /\
  L.length=k+3/\okW wB L/\L[k+2]! = X[k+2]! /\ (0<=ca/\ca<=1)/\(∀z∈wr,z=bu)/\WV wB L+wB^i*ca=WV wB X+WV wB (V.take i)) (fun i s hi ⟨L,ca,aG,lo,wr,hs,hL,oL,ht,hca,hw,hv⟩=>?_) (fun s ⟨L,ca,aG,lo,wr,hs,hL,oL,ht,hca,hw,hv⟩=>?_) (f7 _)
  ⟨_,_,_,_,_,rfl,hX,oX,rfl,⟨am,am⟩,hwr,by simp[WV]⟩
 . subst hs;have gy:=cj oV (i:=i) ac;obtain⟨y,hy⟩:∃y,y=V[i]! := ⟨_,rfl⟩;rw[←hy]at gy;have gy:0<=y/\y<18446744073709551616:=gy;have gL:=cj oL (i:=i) ac;obtain⟨u,hu⟩:∃u,u=L[i]! := ⟨_,rfl⟩;rw[←hu]at gL;have gL:0<=u/\u<18446744073709551616:=gL;have q310:=fun h=>C.mr u y ca h gL.1 gy.1 hca.1 hca.2
   obtain⟨d,hd⟩:∃d,d=(u+y+ca)%18446744073709551616:=⟨_,rfl⟩;obtain⟨D,hD⟩:∃D,D=(u+y+ca)/18446744073709551616:=⟨_,rfl⟩;rw[←hD,←hd]at q310;have hD2:(0<=D/\D<=1)/\u+y+ca=d+18446744073709551616*D/\0<=d/\d<18446744073709551616:=by omega
   have next:∀aG lo,LI (fun s=>∃L ca aG lo wr,s=⟨⟨[.sl bu P.length (k+3) 1 cu,.sl bv 0 (k+2) 1 cv,a2,.iV ((k+2:Nat):Int),a4,a5,a6,a7,a8,a9,aA,aB,aC,aD,aE,.uV ca,aG,aH,aI,.iV ((k+2:Nat):Int),.iV ((i+1:Nat):Int)],lo,di hp bu e P S L,[]⟩,wr⟩ /\
    L.length=k+3/\okW wB L/\L[k+2]! = X[k+2]! /\ (0<=ca/\ca<=1)/\(∀z∈wr,z=bu)/\WV wB L+wB^(i+1)*ca=WV wB X+WV wB (V.take (i+1))) Q .normal ⟨⟨[.sl bu P.length (k+3) 1 cu,.sl bv 0 (k+2) 1 cv,a2,.iV ((k+2:Nat):Int),a4,a5,a6,a7,a8,a9,aA,aB,aC,aD,aE,.uV D,aG,aH,aI,.iV ((k+2:Nat):Int),.iV ((i:Int)+1)],lo,di hp bu e P S (L.set i d),[]⟩,bu::wr⟩:=fun aG lo=>
    cW ⟨_,_,aG,lo,_,rfl,by rw[az];exact hL,gq oL hD2.2.2,by rw[gV ac];exact ht,hD2.1,by simpa using hw,by
     rw[gr ac,←hu,fo ac,←hy,ce];have e1:d-u=y+ca-18446744073709551616*D:=by omega
     rw[e1];show WV wB L+wB^i*(y+ca-18446744073709551616*D)+wB^i*18446744073709551616*D=_;grind⟩
   rw[hy,hu]at q310;unfold rH;repeat' first|(apply aei (i:=i);rfl;exact hl;omega;omega)|(apply aep (i:=i);rfl;exact hb;exact hne;omega;omega)|(apply aeC (i:=i);rfl;rfl;exact hl;omega;omega)|(apply adN;rfl;rfl;(first|(simp only[nca];rfl)|rfl);first|exact q310 _)|apply aaQ|apply aa|apply aaf|apply aad|apply abI|apply abC|apply bE|apply adr|apply adI|(apply adO;rfl)|(apply adJ;rfl;rfl;(first|(simp only[nca];rfl)|rfl))|(apply adW;rfl;(first|(simp only[nca];rfl)|rfl);(first|(simp only[nca];rfl)|rfl))|(apply abz;rfl)|(apply abR;rfl;rfl)|(apply acS;rfl;rfl;omega)|(apply adP;rfl;rfl;omega)|(apply abh;rfl;rfl)|(apply abl;rfl;rfl)|(intro _;omega)|intro _
   all_goals try omega
   all_goals exact next _ _
 . subst hs;rw[aW ac]at hv;unfold rH;repeat' first|apply aaQ|apply aa|apply aaf|apply aad|apply acH|apply bN|apply cX|(apply abx;rfl)|(apply abR;rfl;rfl)|(intro _;omega)|intro _
   all_goals try omega
   exact hQ L ca _ _ _ hL oL ht hca hw hv
structure Cb (M:ax):Prop extends mw M where
 Cc:∀(hi lo y:Int) h,(0<y/\y<18446744073709551616)->(0<=hi/\hi<y)->(0<=lo/\lo<18446744073709551616)->M.ext 287 [.uV hi,.uV lo,.uV y] h=some ⟨.ay [.uV ((hi*18446744073709551616+lo)/y),.uV ((hi*18446744073709551616+lo)%y)],h,[]⟩
def t291:ao:=
 zR [⟨(.p 9),.mv (kU 0),none⟩,
          ⟨(.p 10),.mv (kU 0),none⟩]
        (
         .seq (zR [⟨(.p 17),.mv (.p 3),none⟩,
            zi 18 0]
          (
           .block 2
           (.loop rG)))
         (
          zR [zm 141 0,
            zm 142 3,
            zm 143 0,
            zm 144 3,
            za 145 1 143 144,
            zd 146 1 145,
            zm 147 10,
            zm 148 9,
            ⟨(.l 149),.call (kF 330) [(.l 146),(.l 147),(.l 148)],none⟩,
            zn 140 149,
            ze 150 0 140,
            ze 151 1 140,
            za 152 1 141 142,
            zS 1 152 150,
            zw 9 151]
          (
           .seq (zR [zm 153 9,
              ⟨(.l 154),.bin .eql (.l 153) (kU 0),none⟩]
            (
             .cond (.l 154)
             (
              zR [zm 155 4,
                zw 2 155]
              (.ret))
             (.skip)))
           (
            zR [⟨(.p 15),.mv (kU 0),none⟩]
            (
             .seq (zR [⟨(.p 19),.mv (.p 3),none⟩,
                zi 20 0]
              (
               .block 4
               (.loop rH)))
             (
              zR [zm 177 0,
                zm 178 3,
                za 179 1 177 178,
                zd 180 1 179,
                zm 181 15,
                zb 182 .add 180 181,
                za 183 1 177 178,
                zS 1 183 182]
              (
               zR [zm 184 4,
                 ⟨(.l 185),.bin .sub (.l 184) (kU 1),none⟩,
                 zw 2 185]
               (.ret))))))))
def pS (X V:List Int)(q:Int)(R:List Int):Prop:=(0<=q/\q<18446744073709551616)/\R.length=X.length/\okW wB R/\WV wB R=WV wB X-q*WV wB V/\WV wB R<WV wB V
theorem TV {X V L:List Int}{q ca bo d b:Int}{n:Nat}(hL:L.length=n+1)(oL:okW wB L)(hv:WV wB L=WV wB X-q*WV wB V+wB^n*(ca+bo))(hd:L[n]! - ca-bo=d-18446744073709551616*b)(hd2:0<=d/\d<18446744073709551616) :
 okW wB (L.set n d)/\WV wB (L.set n d)=WV wB X-q*WV wB V+wB^(n+1)*b:=by
 refine⟨gq oL hd2,?_⟩;rw[gr ac,hv,ce];have e:d-L[n]! = 18446744073709551616*b-ca-bo:=by omega
 rw[e];show _+wB^n*(18446744073709551616*b-ca-bo)=_-_+wB^n*18446744073709551616*b;grind
theorem TW {X V R:List Int}{q:Int}(hR:R.length=X.length)(oR:okW wB R)(hq:0<=q/\q<18446744073709551616)(hv:WV wB R=WV wB X-q*WV wB V)(hge:WV wB X<(q+1)*WV wB V):pS X V q R:=by
 refine⟨hq,hR,oR,hv,?_⟩;rw[dr,ff]at hge;omega
theorem TX {X V R L:List Int}{q ca d:Int}{n:Nat}(_oV:okW wB V)(_hV:V.length=n)(hX:X.length=n+1)(oR:okW wB R)(hR:R.length=n+1)(hv:WV wB R=WV wB X-q*WV wB V+wB^(n+1))(h0:0<=WV wB X)(hle:(q-1)*WV wB V<=WV wB X)(hq:0<=q/\q<18446744073709551616)
 (hL:L.length=n+1) (oL:okW wB L) (ht:L[n]! = d) (hl:WV wB L+wB^n*ca=WV wB R+WV wB V) (hca:0<=ca/\ca<=1) :
 1<=q/\pS X V (q-1) (L.set n ((d+ca)%18446744073709551616)):=by
 have lR:=dz (b:=wB) am oR;rw[hR]at lR;have hp:wB^(n+1)=wB^n*18446744073709551616:=ce _ _;have hp0:0<wB^n:=cd am;have q1:1<=q:=by
  rcases db 0 q with h|h
  . omega
  . obtain rfl:q=0:=by omega
    rw[Int.zero_mul]at hv;omega
 have gd:=cj oL (i:=n) ac;rw[ht]at gd;have gd:0<=d/\d<18446744073709551616:=gd;obtain⟨f,hf⟩:∃f,f=(d+ca)/18446744073709551616:=⟨_,rfl⟩;have hf2:(d+ca)%18446744073709551616-d=ca-18446744073709551616*f/\0<=f/\f<=1:=by omega
 have oN:okW wB (L.set n ((d+ca)%18446744073709551616)):=gq oL ⟨ac,by show _<(18446744073709551616:Int);omega⟩;have eN:WV wB (L.set n ((d+ca)%18446744073709551616))=WV wB X-(q-1)*WV wB V+wB^(n+1)*(1-f):=by
  rw[gr ac,ht,hf2.1,hp];rw[hp]at hv;have e1:wB^n*(ca-18446744073709551616*f)=wB^n*ca-wB^n*18446744073709551616*f:=by rw[g9,b7]
  have e2:wB^n*18446744073709551616*(1-f)=wB^n*18446744073709551616-wB^n*18446744073709551616*f:=by rw[g9,iB]
  rw[e1,e2,iK,ff];generalize wB^n*ca=z1 at *
  generalize wB^n*18446744073709551616*f=z2 at *
  generalize wB^n*18446744073709551616=z3 at *
  omega
 have lN:=dz (b:=wB) am oN;rw[az,hL]at lN;have f1:f=1:=by
  rcases db 0 f with h|h
  . omega
  . obtain rfl:f=0:=by omega
    rw[gc,iB]at eN;omega
 subst f1;rw[Int.sub_self,cN,d6]at eN;refine⟨q1,ac,by rw[az];omega,oN,eN,?_⟩;rw[eN,iK,ff];omega
theorem IA (C:mw M)(hl:bu<hp.length)(hne:bu≠bv)(hb:hp.at bv=some (.cells (an (V++Y)) e'))(lk:k<10000000)(hX:X.length=k+3)(oX:okW wB X)(hV:V.length=k+2)(oV:okW wB V)
 (q:Int) (q0:0<=q/\q<18446744073709551616) (hge:WV wB X<(q+1)*WV wB V) (hle:(q-1)*WV wB V<=WV wB X) (a2 a5 a6 a7 a8 a9 aA aB aC aD aE aF aG aH aI aJ aK:AV) (lo:List (Nat×AV)) :
 W M t291 ⟨⟨[.sl bu P.length (k+3) 1 cu,.sl bv 0 (k+2) 1 cv,a2,.iV ((k+2:Nat):Int),.uV q,a5,a6,a7,a8,a9,aA,aB,aC,aD,aE,aF,aG,aH,aI,aJ,aK],lo,di hp bu e P S X,[]⟩,[]⟩
  (fun x s=>(x = .normal\/x = .ret)/\s.s.cg=[]/\∃vs,dH s.s [.var (.p 2)]=some vs/\∃q R,pS X V q R/\s.s.hp=di hp bu e P S R/\(∀z∈s.wr,z=bu)/\aV vs = .uV q):=by
 have hX0:=cA (b:=wB) am oX;unfold t291;repeat' first|apply aaQ|apply aa|apply aaf|apply aad|apply abI|(apply abl;rfl;rfl)
 refine TT C hl hne hb lk hX oX hV oV q q0 _ _ _ _ _ _ _ _ _ _ _ _ _ _ (fun L bo ca aB aC aD aE lo wr hL oL ht hbo hca hw hv=>?_);have gt:=cj oL (i:=k+2) ac;obtain⟨t,htt⟩:∃t,t=L[k+2]! := ⟨_,rfl⟩;rw[←htt]at gt;have gt:0<=t/\t<18446744073709551616:=gt;obtain⟨b,hbb⟩:∃b:Int,b=if t<ca+bo then 1 else 0:=⟨_,rfl⟩
 obtain⟨d,hd⟩:∃d,d=(t-ca-bo)%18446744073709551616:=⟨_,rfl⟩;have q330:=fun h=>C.vk t ca bo h gt.1 gt.2 hca.1 hca.2 hbo.1 hbo.2
 rw[←hbb,←hd]at q330;have hb2:(b=0\/b=1)/\t-ca-bo=d-18446744073709551616*b/\0<=d/\d<18446744073709551616:=by
  rw[hbb];split <;> omega
 obtain⟨oR,vR⟩:=TV hL oL hv (by rw[←htt];exact hb2.2.1) hb2.2.2;obtain⟨R,hR⟩:∃R,R=L.set (k+2) d:=⟨_,rfl⟩;have lR:R.length=k+3:=by rw[hR,az];exact hL
 have tR:R[k+2]! = d:=by rw[hR];exact vi ac
 rw[←hR]at oR vR;have hw2:∀z∈bu::wr,z=bu:=by simpa using hw
 rw[htt]at q330;rcases hb2.1 with rfl|rfl
 . rw[cN,d6]at vR;have fin:=TW (X:=X) (V:=V) ac oR q0 vR hge;rw[hR]at fin;repeat' first|(apply aei (i:=k+2);rfl;exact hl;omega;omega)|(apply aeC (i:=k+2);rfl;rfl;exact hl;omega;omega)|apply aaQ|apply aa|apply aaf|apply aad|apply abw|apply aU|apply bJ|(apply abz;rfl)|(apply acR;rfl;rfl)|(apply abJ;rfl;rfl;first|exact q330 _)|(apply adP;rfl;rfl;omega)|(apply abh;rfl;rfl)|(apply abl;rfl;rfl)|(intro _;omega)|intro _
   all_goals try omega
   exact⟨.inr rfl,rfl,_,rfl,q,_,fin,rfl,hw2,rfl⟩
 . rw[iB]at vR;have back:=fun (L':List Int) (ca:Int) h1 h2 h3 h4 h5=>TX (X:=X) (V:=V) (R:=R) (L:=L') (q:=q) (ca:=ca) (d:=d) (n:=k+2) oV hV hX oR lR vR hX0 hle q0 h1 h2 h3 h4 h5
   rw[hR]at lR oR tR back;repeat' first|(apply aei (i:=k+2);rfl;exact hl;omega;omega)|(apply aeC (i:=k+2);rfl;rfl;exact hl;omega;omega)|apply aaQ|apply aa|apply aaf|apply aad|apply abI|apply abC|apply bJ|(apply abx;rfl)|(apply acR;rfl;rfl)|(apply abJ;rfl;rfl;first|exact q330 _)|(apply adP;rfl;rfl;omega)|(apply abh;rfl;rfl)|(apply abl;rfl;rfl)|(intro _;omega)|intro _
   all_goals try omega
   refine TU C hl hne hb lk lR oR hV oV _ _ _ _ _ _ _ _ _ _ _ _ _ _ _ _ _ hw2 (fun L' c2 aG lo wr hL' oL' ht' hc2 hw' hv'=>?_);rw[tR]at ht';obtain⟨q1,fin⟩:=back L' c2 hL' oL' ht' hv' hc2;rw[←ht']at fin;have hw3:∀z∈bu::wr,z=bu:=by simpa using hw'
   repeat' first|(apply aei (i:=k+2);rfl;exact hl;omega;omega)|(apply aeC (i:=k+2);rfl;rfl;exact hl;omega;omega)|(apply aef (a:=q);rfl;rfl;omega)|(apply aeH;rfl;rfl)|apply aaQ|apply aa|apply aaf|apply aad|apply abw|apply bJ|(apply adP;rfl;rfl;omega)|(apply abh;rfl;rfl)|(apply abl;rfl;rfl)
   all_goals try omega
   exact⟨.inr rfl,rfl,_,rfl,q-1,_,fin,rfl,hw3,rfl⟩
theorem TY {n:Nat}{v:AV}{s:au}(hh:s.s.hp.length=n):fW v n s=⟨v,s.s.hp,s.wr.filter (· < n)⟩:=by
 unfold fW;split
 . rw[aW ac]
 . rfl
theorem TZ (C:Cb M)(hl:bu<hp.length)(hne:bu≠bv)(hb:hp.at bv=some (.cells (an (V++Y)) e'))(lk:k<10000000)(hX:X.length=k+3)(oX:okW wB X)(hV:V.length=k+2)(oV:okW wB V)(hv:9223372036854775808<=V[k+1]!)(hT:WV wB X<wB*WV wB V) :
 ∃q R,pS X V q R/\∃wr,(∀z∈wr,z=bu)/\bg M 291 [.sl bu P.length (k+3) 1 cu,.sl bv 0 (k+2) 1 cv] (di hp bu e P S X) ⟨.uV q,di hp bu e P S R,wr⟩:=by
 have K:=jg.of hX hV oX oV hv hT;have h1:=K.h1;have w1:=K.w1;have h2:=K.h2;have key:=uE.Hq (M:=M) (f:=291) (ars:=[.sl bu P.length (k+3) 1 cu,.sl bv 0 (k+2) 1 cv]) (h:=di hp bu e P S X) (K:=fun hr=>∃q R,pS X V q R/\∃wr,(∀z∈wr,z=bu)/\hr=⟨.uV q,di hp bu e P S R,wr⟩) (by rw[C.ft];exact Td) aq (by
  refine W.mono (Q:=fun x s=>(x = .normal\/x = .ret)/\s.s.cg=[]/\∃vs,dH s.s [.var (.p 2)]=some vs/\∃q R,pS X V q R/\s.s.hp=di hp bu e P S R/\(∀z∈s.wr,z=bu)/\aV vs = .uV q) ?_ (fun x s ⟨g1,g2,vs,g3,q,R,g4,g5,g6,g7⟩=>⟨g1,s,by rw[g2];rfl,vs,g3,q,R,g4,s.wr.filter (· < (di hp bu e P S X).length),fun z hz=>g6 z (List.mem_filter.1 hz).1,by rw[TY (by rw[g5,Ix,Ix]),g5,g7]⟩);unfold Ie;simp only[enter];by_cases h:V[k+1]! <= X[k+2]!
  . have I:=ik.TO K h;have q310:=fun h=>C.mr X[k+1]! V[k+1]! 0 h h1.1 ac am am
    have e1:(X[k+1]! + V[k+1]! + 0)%18446744073709551616+18446744073709551616*((X[k+1]! + V[k+1]! + 0)/18446744073709551616)=X[k+1]! + V[k+1]! := by omega
    rw[←e1]at I;repeat' first|(apply aei (i:=k+2);rfl;exact hl;omega;omega)|(apply aei (i:=k+1);rfl;exact hl;omega;omega)|(apply aep (i:=k+1);rfl;exact hb;exact hne;omega;omega)|(apply adN;rfl;rfl;(first|(simp only[nca];rfl)|rfl);first|exact q310 _)|apply aaQ|apply aa|apply aaf|apply aad|apply abI|(apply adX;rfl)|apply adr|apply adI|(apply adO;rfl)|(apply adJ;rfl;rfl;(first|(simp only[nca];rfl)|rfl))|(apply abz;rfl)|(apply adK;rfl;rfl)|(apply adj;rfl;rfl;omega)|(apply adP;rfl;rfl;omega)|(apply abh;rfl;rfl)|(apply abl;rfl;rfl)|(intro _;omega)|intro _
    all_goals try omega
    refine Iz C.tomw hl hne hb lk hX hV K _ _ _ _ _ _ _ _ _ _ _ _ _ _ (fun q rh ov a7 a8 lo g1 g2 g3=>?_) _ _ _ _ _ _ I ac ac;repeat' first|(exact IA C.tomw hl hne hb lk hX oX hV oV q g1 g2 g3 _ _ _ _ _ _ _ _ _ _ _ _ _ _ _ _ _ _)|apply aa|apply bJ
  . have I:=ik.TP K ac;have q287:=fun h=>C.Cc X[k+2]! X[k+1]! V[k+1]! h ac ac h1
    have r0:=i7 (X[k+2]! * 18446744073709551616+X[k+1]!) (show V[k+1]! ≠ 0 by omega);have r1:=gU (X[k+2]! * 18446744073709551616+X[k+1]!) (show 0<V[k+1]! by omega);rw[←d6 ((X[k+2]! * 18446744073709551616+X[k+1]!)%V[k+1]!),←cN 18446744073709551616]at I;repeat' first|(apply aei (i:=k+2);rfl;exact hl;omega;omega)|(apply aei (i:=k+1);rfl;exact hl;omega;omega)|(apply aep (i:=k+1);rfl;exact hb;exact hne;omega;omega)|(apply adN;rfl;rfl;(first|(simp only[nca];rfl)|rfl);first|exact q287 _)|apply aaQ|apply aa|apply aaf|apply aad|apply abI|(apply adX;rfl)|apply adr|apply adI|(apply adO;rfl)|(apply adJ;rfl;rfl;(first|(simp only[nca];rfl)|rfl))|(apply abx;rfl)|(apply adK;rfl;rfl)|(apply adj;rfl;rfl;omega)|(apply adP;rfl;rfl;omega)|(apply abh;rfl;rfl)|(apply abl;rfl;rfl)|(intro _;omega)|intro _
    all_goals try omega
    refine Iz C.tomw hl hne hb lk hX hV K _ _ _ _ _ _ _ _ _ _ _ _ _ _ (fun q rh ov a7 a8 lo g1 g2 g3=>?_) _ _ _ _ _ _ I ⟨r0,ac⟩ am;repeat' first|(exact IA C.tomw hl hne hb lk hX oX hV oV q g1 g2 g3 _ _ _ _ _ _ _ _ _ _ _ _ _ _ _ _ _ _)|apply aa|apply bJ
  )
 obtain⟨r,h1,q,R,h2,wr,h3,rfl⟩:=key;exact⟨q,R,h2,wr,h3,h1⟩
theorem afp {t n b:Nat}{k k':IntKind}{x y z:aO}{l:List aY}{pe:List AV}{lo:List (Nat×AV)}{hp:ae}{df wr:List Nat}{i j:Int}{Q:au->Prop}(i' r:Nat)(hx:(St.mk pe lo hp df).ah x=some (.sl b 0 n 1 (some n)))(hy:(St.mk pe lo hp df).ah y=some (.int k i))(hz:(St.mk pe lo hp df).ah z=some (.int k' j))
 (hi:i=i') (hj:j=i'+r) (hr:0<r) (hn:i'+r<=n)
 (h:WO M l ⟨⟨pe,(t,.sl b i' r 1 (some (n-i')))::lo,hp,df⟩,wr⟩ Q):WO M (⟨.l t,.slice .sl 1 x (some y) (some z) none,none⟩::l) ⟨⟨pe,lo,hp,df⟩,wr⟩ Q:=by
 subst hi;have ej:j=((i'+r:Nat):Int):=by omega
 subst ej;refine abh (v:=.sl b i' r 1 (some (n-i'))) ?_ rfl h;have h1:(0:Int)<=((i'+r:Nat):Int)/\((i'+r:Nat):Int)<=(n:Int):=by omega
 have h2:(0:Int)<=(i':Int)/\(i':Int)<=((i'+r:Nat):Int):=by omega
 simp only[bk,hx,St.dY,hy,hz,n6,jD,bZ,m5,m6,ox,if_true,Option.getD_some,if_pos h1,c8,if_pos h2,Nat.mul_one,Nat.zero_add];rw[if_pos ac,show i'+r-i'=r by omega]
structure Cd (M:ax):Prop extends Cb M where
 rO:∀ars h,M.ext 290 ars h=none
 vw:∀ars h,M.ext 291 ars h=none
variable {j:Nat} {U:List Int}
theorem Ub (C:Cd M)(hU:hp.at bu=some (.cells (an U) e))(hne:bu≠bv)(hb:hp.at bv=some (.cells (an (V++Y)) e'))(lk:k<10000000)(hj:j+(k+3)<=U.length)(oU:okW wB U)(hV:V.length=k+2)(oV:okW wB V)(hv:9223372036854775808<=V[k+1]!)(hup:WV wB (U.drop (j+1))<WV wB V) :
 ∃q U',(0<=q/\q<18446744073709551616)/\U'.length=U.length/\okW wB U'/\WV wB U'=WV wB U-wB^j*(q*WV wB V)/\WV wB (U'.drop j)<WV wB V/\∃wr,(∀z∈wr,z=bu)/\CT M (.fn (.func 291) [] []) [.sl bu j (k+3) 1 cu,.sl bv 0 (k+2) 1 cv] hp ⟨.uV q,hp.put bu (some (.cells (an U') e)),wr⟩:=by
 obtain⟨P,hP⟩:∃P,P=U.take j:=⟨_,rfl⟩;obtain⟨X,hX⟩:∃X,X=(U.drop j).take (k+3):=⟨_,rfl⟩;obtain⟨S,hS⟩:∃S,S=U.drop (j+(k+3)):=⟨_,rfl⟩;have eU:U=P++X++S:=by
  rw[hP,hX,hS,dh,←n8,fM,fM]
 have lP:P.length=j:=by rw[hP,b5];omega
 have lX:X.length=k+3:=by rw[hX,b5,n4];omega
 have oX:okW wB X:=by rw[hX];exact dL (jd oU _) _
 have oS:okW wB S:=by rw[hS];exact jd oU _
 have oP:okW wB P:=by rw[hP];exact dL oU _
 have eD:U.drop j=X++S:=by rw[eU,←lP,dh,n9]
 have hl:bu<hp.length:=gG hU;have gj:=cj oU (i:=j) ac;have d1:=nJ (b:=wB) (l:=U) (i:=j) ac;have lt:=dz (b:=wB) am oV;rw[hV]at lt;have hpow:(0:Int)<wB^(k+2):=cd am;have hS0:WV wB S=0:=by
  have h1:WV wB (U.drop (j+1))=WV wB ((U.drop (j+1)).take (k+2))+wB^(k+2)*WV wB S:=by
   have:=kP (b:=wB) (l:=U.drop (j+1)) (i:=k+2) (by rw[n4];omega);rwa [n8,show j+1+(k+2)=j+(k+3) by omega,←hS]at this
  have h2:=cA (b:=wB) am (dL (jd oU (j+1)) (k+2));have h3:=cA (b:=wB) am oS;rcases db 0 (WV wB S) with h|h
  . have:=aZ (show 1<=WV wB S by omega) (bj hpow);omega
  . omega
 have hXD:WV wB X=WV wB (U.drop j):=by rw[eD,fN,hS0,cN,d6]
 have hT:WV wB X<wB*WV wB V:=by
  rw[hXD,d1];have gj:0<=U[j]! /\ U[j]! < 18446744073709551616:=gj;show _+18446744073709551616*_<18446744073709551616*_;omega
 obtain⟨q,R,⟨hq,lR,oR,vR,tR⟩,wr,hw,hrun⟩:=TZ (cu:=cu) (cv:=cv) (P:=P) (S:=S) (e:=e) C.toCb hl hne hb lk lX oX hV oV hv hT;refine⟨q,P++R++S,hq,?_,js (js oP oR) oS,?_,?_,wr,hw,?_⟩
 . rw[eU];simp[lR]
 . rw[eU,dh,fN,fN,dh,fN,fN,vR,lR,lP,ci,ci,g9];omega
 . rw[←lP,dh,n9,fN,hS0,cN,d6];exact tR
 . rw[lP]at hrun;have e1:di hp bu e P S X=hp:=by unfold di;rw[←eU];exact Hm hU
   rw[e1]at hrun;exact CT.run (fi:=[]) (ca:=[]) (C.vw _ _) hrun
variable {cap c1 c2:Option Nat}
def dw (x:AV)(l:List Int):Prop:=x = .vs (an l) l.length none\/(x = .ab/\l=[])
def kq (v:AV)(hh:ae)(q r:List Int):Prop:=∃v1 x y,eC hh v v1/\v1.top=0/\bD v1 = .ay [x,y]/\dw x q/\dw y r
theorem kS (l:List Int):cC (an l)=an l:=uK (fun _=>rfl) l
theorem IB {b:Nat}{L:List Int}{e:TypeId}{hp:ae}{n:Nat}(hb:hp.at b=some (.cells (an L) e))(hn:n<=L.length)(hh:ae)(he:(bO b (aS (L.take n)) cap).top≠0->hh=hp) :
 ∃v1,eC hh (bO b (aS (L.take n)) cap) v1/\v1.top=0/\bD v1 = .vs (an (L.take (aS (L.take n)))) (L.take (aS (L.take n))).length none:=by
 have hle:=iJ (l:=L.take n);rw[b5]at hle;obtain⟨k,hk⟩:∃k,k=aS (L.take n):=⟨_,rfl⟩;rw[←hk]at hle he ⊢;by_cases h0:0<k
 . have e1:bO b k cap = .sl b 0 k 1 cap:=if_pos h0;rw[e1]at he ⊢;obtain rfl:=he (by simp[AV.top]);have hl:(L.take k).length=k:=by rw[b5];omega
   have hF:eC hh (.sl b 0 k 1 cap) (.vs (an (L.take k)) k none):=by
    refine .sl (m:=an (L.take k)) hb ?_ rfl (fun i x y hx hy=>?_)
    . have:=kO (f:=uC) (esz:=1) (fun _=>rfl) (l:=L) (i:=0) (n:=k) ac;simpa using this
    . rw[hx]at hy;cases hy;exact .same (cR (ij _) hx)
   rw[hl];exact⟨_,hF,ij _,by rw[bD,kS]⟩
 . obtain rfl:k=0:=by omega
   exact⟨.vs [] 0 cap,.same rfl,rfl,rfl⟩
theorem kq.trim {d1 d2:Option Nat}{b1 b2:Nat}{L1 L2:List Int}{e1 e2:TypeId}{hp:ae}{n1 n2:Nat}(h1:hp.at b1=some (.cells (an L1) e1))(hn1:n1<=L1.length)(h2:hp.at b2=some (.cells (an L2) e2))(hn2:n2<=L2.length) :
 kq (aV [bO b1 (aS (L1.take n1)) d1,bO b2 (aS (L2.take n2)) d2]) (if (aV [bO b1 (aS (L1.take n1)) d1,bO b2 (aS (L2.take n2)) d2]).top<=0 then [] else hp) (L1.take (aS (L1.take n1))) (L2.take (aS (L2.take n2))):=by
 obtain⟨x,hx⟩:∃x,x=bO b1 (aS (L1.take n1)) d1:=⟨_,rfl⟩;obtain⟨y,hy⟩:∃y,y=bO b2 (aS (L2.take n2)) d2:=⟨_,rfl⟩;obtain⟨hh,hhh⟩:∃hh,hh=(if (aV [x,y]).top<=0 then [] else hp):=⟨_,rfl⟩;have et:(aV [x,y]).top=max x.top (max y.top 0):=rfl;obtain⟨v1,f1,t1,k1⟩:=IB (cap:=d1) h1 hn1 hh (fun h=>by rw[hhh,if_neg];rw[←hx]at h;omega);obtain⟨v2,f2,t2,k2⟩:=IB (cap:=d2) h2 hn2 hh (fun h=>by rw[hhh,if_neg];rw[←hy]at h;omega);rw[←hx,←hy,←hhh];rw[←hx]at f1;rw[←hy]at f2;refine⟨.ay [v1,v2],_,_,.ay rfl (fun i a b ha hb=>?_),?_,?_,.inl rfl,.inl rfl⟩
 . match i with
   | 0=>cases ha;cases hb;exact f1
   | 1=>cases ha;cases hb;exact f2
   | i+2=>cases ha
 . simp[AV.top,bz,t1,t2]
 . simp only[bD,cC,k1,k2]
theorem kq.less {hh:ae}{l:List Int}:kq (aV [.ab,.vs (an l) l.length cap]) hh [] l:=by
 have ht:(aV [.ab,.vs (an l) l.length cap]).top=0:=by simp[aV,AV.top,bz,ij l]
 refine⟨aV [.ab,.vs (an l) l.length cap],.ab,.vs (an l) l.length none,.same ht,ht,?_,.inr ⟨rfl,rfl⟩,.inl rfl⟩;simp only[aV,bD,cC,kS l]
def rP (M:ax)(g:Nat)(ars:List AV)(x y:Int):Prop:=∃q r:List Int,(okW wB q/\aR q/\WV wB q=x/y)/\(okW wB r/\aR r/\WV wB r=x%y)/\∃v hh,kq v hh q r/\bg M g ars [] ⟨v,hh,[]⟩
theorem ID {f N:Nat}{aP:List Nat}{res:List fw}{body:ao}{ars:List AV}{x y:Int}(hft:M.FT f=some ⟨N,aP,res,body⟩)(hN:ars.length<=N)
 (h:W M body ⟨⟨aP.map (fun t=>(ars[t]?).getD cG),[],[],[]⟩,[]⟩ fun e s=>(e = .normal\/e = .ret)/\s.s.cg=[]/\∃vs,dH s.s res=some vs/\∃q r:List Int,(okW wB q/\aR q/\WV wB q=x/y)/\(okW wB r/\aR r/\WV wB r=x%y)/\kq (aV vs) (if (aV vs).top<=0 then [] else s.s.hp) q r):rP M f ars x y:=by
 obtain⟨v,hh,⟨q,r,hq,hr,ho⟩,h2⟩:=gS (P:=fun v hh=>∃q r:List Int,(okW wB q/\aR q/\WV wB q=x/y)/\(okW wB r/\aR r/\WV wB r=x%y)/\kq v hh q r) hft hN h;exact⟨q,r,hq,hr,v,hh,ho,h2⟩
structure IE (M:ax):Prop extends Cd M where
 rQ:∀(a b:List Int) c1 c2 h,okW wB a->okW wB b->aR a->aR b->a.length<1000000000->b.length<1000000000->M.ext 286 [.vs (an a) a.length c1,.vs (an b) b.length c2] h=some ⟨.iV (br (WV wB a-WV wB b)),h,[]⟩
 rL:∀(y:Int) h,(0<=y/\y<18446744073709551616)->M.ext 289 [.uV y] h=some ⟨.iV (64-eo y:Nat),h,[]⟩
theorem nP {x y q r:Int}(h:x=y*q+r)(h0:0<=r)(h1:r<y):q=x/y/\r=x%y:=by
 subst h;refine⟨?_,?_⟩
 . rw[nz,kM _ _ ac,fF h0 h1,ne]
 . rw[nz,Int.add_mul_emod_self_left,nO h0 h1]
theorem Uc (C:Cb M)(a b:List Int)(oa:okW wB a)(ob:okW wB b)(la:a.length<10000000)(lb:b.length=1)(hb0:0<b[0]!){Q:Ex->au->Prop}(a2 a3 a7 a8 a9 aA aB aC aD aE aF:AV)(lo:List (Nat×AV))
 (hQ:∀L (re:Int) lo wr,L.length=a.length->okW wB L->(0<=re/\re<b[0]!)->WV wB a=b[0]! * WV wB L+re ->
   Q (.exit 0) ⟨⟨[.vs (an a) a.length c1,.vs (an b) b.length c2,a2,a3,.sl 0 0 a.length 1 (some a.length),.uV re,.iV (-1),a7,a8,a9,aA,aB,aC,aD,aE,aF],lo,[some (.cells (an L) 274)],[]⟩,wr⟩) :
 W M (.loop uT) ⟨⟨[.vs (an a) a.length c1,.vs (an b) b.length c2,a2,a3,.sl 0 0 a.length 1 (some a.length),.uV 0,.iV ((a.length:Int)-1),a7,a8,a9,aA,aB,aC,aD,aE,aF],lo,[some (.cells (an (c5 a.length 0)) 274)],[]⟩,[]⟩ Q:=by
 refine W.gH (fun t s=>∃L re iv lo wr,s=⟨⟨[.vs (an a) a.length c1,.vs (an b) b.length c2,a2,a3,.sl 0 0 a.length 1 (some a.length),.uV re,.iV iv,a7,a8,a9,aA,aB,aC,aD,aE,aF],lo,[some (.cells (an L) 274)],[]⟩,wr⟩ /\
  iv=(t:Int)-1/\t<=a.length/\L.length=a.length/\okW wB L/\(0<=re/\re<b[0]!)/\(∀k,k<t->L[k]! = 0)/\WV wB a=b[0]! * WV wB L+wB^t*re+WV wB (a.take t)) (fun t s ⟨L,re,iv,lo,wr,hs,hiv,ht,hL,oL,hre,hz,hv⟩=>?_) (m:=a.length)
  ⟨_,_,_,_,_,rfl,rfl,bc _,aq,km am,⟨am,hb0⟩,fun k _=>kp,by rw[kn,dU];simp⟩
 subst hs;cases t with
 | zero=>
  obtain rfl:iv = -1:=by omega
  unfold uT;repeat' first|apply aaQ|apply aa|apply aaf|apply aad|apply acH|apply bN|apply cX|(apply abx;rfl)|(apply adK;rfl;rfl)|(apply abh;rfl;rfl)|(intro _;omega)|intro _
  all_goals try omega
  exact hQ L re _ _ hL oL hre (by rw[hv];simp[WV])
 | succ i=>
  obtain rfl:iv=(i:Int):=by omega
  have gx:=cj oa (i:=i) ac;obtain⟨x,hx⟩:∃x,x=a[((i:Int)).toNat]! := ⟨_,rfl⟩;rw[show a[i]! = x from hx.symm]at gx;have gx:0<=x/\x<18446744073709551616:=gx;have gy:=cj ob (i:=0) ac;obtain⟨y,hy⟩:∃y,y=b[(0:Int).toNat]! := ⟨_,rfl⟩;rw[show b[0]! = y from hy.symm]at gy hre hb0 hv hQ;have gy:0<=y/\y<18446744073709551616:=gy;have q287:=fun h=>C.Cc re x y h ⟨hb0,gy.2⟩ hre gx
  have e1:=f6 (re*18446744073709551616+x) y;have r0:=i7 (re*18446744073709551616+x) (show y≠0 by omega);have r1:=gU (re*18446744073709551616+x) hb0;have d0:0<=(re*18446744073709551616+x)/y:=d8 ac ac;have d1:(re*18446744073709551616+x)/y<18446744073709551616:=cV ac ac;obtain⟨d,hd⟩:∃d,d=(re*18446744073709551616+x)/y:=⟨_,rfl⟩;obtain⟨r,hr⟩:∃r,r=(re*18446744073709551616+x)%y:=⟨_,rfl⟩;rw[←hd,←hr]at q287 e1;rw[←hd]at d0 d1;rw[←hr]at r0 r1;have eI:0+((i:Int)).toNat*1=i:=by omega
  have next:∀lo wr,LI (fun s=>∃m',m'<i+1/\∃L re iv lo wr,s=⟨⟨[.vs (an a) a.length c1,.vs (an b) b.length c2,a2,a3,.sl 0 0 a.length 1 (some a.length),.uV re,.iV iv,a7,a8,a9,aA,aB,aC,aD,aE,aF],lo,[some (.cells (an L) 274)],[]⟩,wr⟩ /\
   iv=(m':Int)-1/\m'<=a.length/\L.length=a.length/\okW wB L/\(0<=re/\re<b[0]!)/\(∀k,k<m'->L[k]! = 0)/\WV wB a=b[0]! * WV wB L+wB^m'*re+WV wB (a.take m')) Q .normal ⟨⟨[.vs (an a) a.length c1,.vs (an b) b.length c2,a2,a3,.sl 0 0 a.length 1 (some a.length),.uV r,.iV ((i:Int)-1),a7,a8,a9,aA,aB,aC,aD,aE,aF],lo,[some (.cells (an (L.set i d)) 274)],[]⟩,wr⟩:=fun lo wr=>
   cW ⟨i,n5 i,_,_,_,lo,wr,rfl,rfl,ac,by rw[az];exact hL,gq oL ⟨d0,d1⟩,⟨r0,by rw[show b[0]! = y from hy.symm];exact r1⟩,fun k hk=>by rw[gV ac];exact hz k ac,by
    rw[show b[0]! = y from hy.symm,hv,gr ac,hz i ac,fo ac,show a[i]! = x from hx.symm,ce,gc];have e2:wB^i*wB*re+wB^i*x=wB^i*(y*d+r):=by rw[e1];show wB^i*18446744073709551616*re+_=_;grind
    rw[ci]at e2 ⊢;have e3:y*(wB^i*d)=wB^i*(y*d):=by grind
    rw[e3];omega⟩
  rw[hx,hy]at q287;unfold uT;repeat' first|(apply adN;rfl;rfl;(first|(simp only[nca];rfl)|rfl);first|exact q287 _)|(apply aee;exact congrArg (fun z=>some (AV.ptr 0 z)) eI;rfl;rfl;omega)|apply aaQ|apply aa|apply aaf|apply aad|apply abI|apply abC|apply bE|apply adr|apply adI|(apply adO;rfl)|(apply adJ;rfl;rfl;(first|(simp only[nca];rfl)|rfl))|(apply adW;rfl;(first|(simp only[nca];rfl)|rfl);(first|(simp only[nca];rfl)|rfl))|(apply abz;rfl)|(apply adK;rfl;rfl)|(apply adj;rfl;rfl;omega)|(apply adp;rfl;rfl;omega)|(apply adP;rfl;rfl;omega)|(apply adL;rfl;exact fun _=>rfl;(first|omega|(simp only[az];omega)|(simp;omega));decide;rfl;case ia=>infer_instance)|(apply abh;rfl;rfl)|(apply abl;rfl;rfl)|(intro _;omega)|intro _
  all_goals try omega
  exact next _ _
theorem aet {t b m:Nat}{x:aO}{l:List aY}{pe:List AV}{lo:List (Nat×AV)}{hp:ae}{df wr:List Nat}{L:List Int}{e:TypeId}{v:Int}{Q:au->Prop}(hx:(St.mk pe lo hp df).ah x=some (.ptr b m))(hb:hp.at b=some (.cells (an L) e))(hi:m<L.length)(hv:L[m]! = v)
 (h:WO M l ⟨⟨pe,(t,.uV v)::lo,hp,df⟩,wr⟩ Q):WO M (⟨.l t,.load 1 false x,none⟩::l) ⟨⟨pe,lo,hp,df⟩,wr⟩ Q:=by
 subst hv;exact aem hx hb hi h
theorem Ud (C:Cd M){k N:Nat}{V Y U0:List Int}(lN:N<10000000)(hN:k+3<=N)(hV:V.length=k+2)(oV:okW wB V)(hv:9223372036854775808<=V[k+1]!)(hU0:U0.length=N)(oU0:okW wB U0)(hup:WV wB (U0.drop (N-(k+2)))<WV wB V){Q:Ex->au->Prop}(a0 a1 a2 a3 a4 a5 a6 a7 aD aE aF:AV)(lo:List (Nat×AV))(wr:List Nat)
 (hQ:∀U L lo wr,U.length=N->okW wB U->L.length=N-(k+2)->okW wB L->WV wB U0=WV wB V*WV wB L+WV wB U->WV wB U<WV wB V ->
   Q (.exit 2) ⟨⟨[a0,a1,a2,a3,a4,a5,a6,a7,.sl 0 0 (k+2) 1 cv,.sl 1 0 N 1 (some N),.iV ((k+2:Nat):Int),.sl 2 0 (N-(k+2)) 1 cap,.iV (-1),aD,aE,aF],lo,[some (.cells (an (V++Y)) 274),some (.cells (an U) 274),some (.cells (an L) 274)],[]⟩,wr⟩)
 (j:Int) (hj:j=(N:Int)-(k+3)) :
 W M (.loop uU) ⟨⟨[a0,a1,a2,a3,a4,a5,a6,a7,.sl 0 0 (k+2) 1 cv,.sl 1 0 N 1 (some N),.iV ((k+2:Nat):Int),.sl 2 0 (N-(k+2)) 1 cap,.iV j,aD,aE,aF],lo,[some (.cells (an (V++Y)) 274),some (.cells (an U0) 274),some (.cells (an (c5 (N-(k+2)) 0)) 274)],[]⟩,wr⟩ Q:=by
 refine W.gH (fun t s=>∃U L iv lo wr,s=⟨⟨[a0,a1,a2,a3,a4,a5,a6,a7,.sl 0 0 (k+2) 1 cv,.sl 1 0 N 1 (some N),.iV ((k+2:Nat):Int),.sl 2 0 (N-(k+2)) 1 cap,.iV iv,aD,aE,aF],lo,[some (.cells (an (V++Y)) 274),some (.cells (an U) 274),some (.cells (an L) 274)],[]⟩,wr⟩ /\
  iv=(t:Int)-1/\t<=N-(k+2)/\U.length=N/\okW wB U/\L.length=N-(k+2)/\okW wB L/\(∀k,k<t->L[k]! = 0)/\WV wB U0=WV wB V*WV wB L+WV wB U/\WV wB (U.drop t)<WV wB V) (fun t s ⟨U,L,iv,lo,wr,hs,hiv,ht,hU,oU,hL,oL,hz,hv1,hv2⟩=>?_) (m:=N-(k+2))
  ⟨_,_,_,_,_,rfl,ac,bc _,hU0,oU0,aq,km am,fun k _=>kp,by rw[kn,cN,ne],hup⟩
 subst hs;cases t with
 | zero=>
  obtain rfl:iv = -1:=by omega
  unfold uU;repeat' first|apply aaQ|apply aa|apply aaf|apply aad|apply acH|apply bN|apply cX|(apply abx;rfl)|(apply adK;rfl;rfl)|(apply abh;rfl;rfl)|(intro _;omega)|intro _
  all_goals try omega
  exact hQ U L _ _ hU oU hL oL hv1 hv2
 | succ i=>
  obtain rfl:iv=(i:Int):=by omega
  obtain⟨q,U',hq,lU,oU',vU,tU,w,hw,hct⟩:=Ub (cu:=some (N-i)) (cv:=cv) (bu:=1) (bv:=0) (e:=274) (e':=274) (hp:=[some (.cells (an (V++Y)) 274),some (.cells (an U) 274),some (.cells (an L) 274)]) (U:=U) (V:=V) (Y:=Y) (j:=i) C rfl am rfl (show k<10000000 by omega) ac oU hV oV hv hv2;have hct:CT M (.fn (.func 291) [] []) [.sl 1 i (k+3) 1 (some (N-i)),.sl 0 0 (k+2) 1 cv] [some (.cells (an (V++Y)) 274),some (.cells (an U) 274),some (.cells (an L) 274)] ⟨.uV q,[some (.cells (an (V++Y)) 274),some (.cells (an U') 274),some (.cells (an L) 274)],w⟩:=hct;have eI:0+((i:Int)).toNat*1=i:=by omega
  have next:∀lo wr,LI (fun s=>∃m',m'<i+1/\∃U L iv lo wr,s=⟨⟨[a0,a1,a2,a3,a4,a5,a6,a7,.sl 0 0 (k+2) 1 cv,.sl 1 0 N 1 (some N),.iV ((k+2:Nat):Int),.sl 2 0 (N-(k+2)) 1 cap,.iV iv,aD,aE,aF],lo,[some (.cells (an (V++Y)) 274),some (.cells (an U) 274),some (.cells (an L) 274)],[]⟩,wr⟩ /\
   iv=(m':Int)-1/\m'<=N-(k+2)/\U.length=N/\okW wB U/\L.length=N-(k+2)/\okW wB L/\(∀k,k<m'->L[k]! = 0)/\WV wB U0=WV wB V*WV wB L+WV wB U/\WV wB (U.drop m')<WV wB V) Q .normal ⟨⟨[a0,a1,a2,a3,a4,a5,a6,a7,.sl 0 0 (k+2) 1 cv,.sl 1 0 N 1 (some N),.iV ((k+2:Nat):Int),.sl 2 0 (N-(k+2)) 1 cap,.iV ((i:Int)-1),aD,aE,aF],lo,[some (.cells (an (V++Y)) 274),some (.cells (an U') 274),some (.cells (an (L.set i q)) 274)],[]⟩,wr⟩:=fun lo wr=>
   cW ⟨i,n5 i,_,_,_,lo,wr,rfl,rfl,ac,ac,oU',by rw[az];exact hL,gq oL hq,fun k hk=>by rw[gV ac];exact hz k ac,by
    rw[gr ac,hz i ac,gc,vU,hv1,ci];have e3:WV wB V*(wB^i*q)=wB^i*(q*WV wB V):=by rw[←b7,b8 (WV wB V),b7,b8 (WV wB V)]
    rw[e3];omega,tU⟩
  unfold uU;repeat' first|(apply afp i (k+3);rfl;rfl;rfl;rfl;omega;omega;omega)|(apply adQ;rfl;rfl;first|exact hct)|(apply aee;exact congrArg (fun z=>some (AV.ptr 2 z)) eI;rfl;rfl;omega)|apply aaQ|apply aa|apply aaf|apply aad|apply abI|apply abC|apply bE|(apply abz;rfl)|(apply adK;rfl;rfl)|(apply acS;rfl;rfl;omega)|(apply adj;rfl;rfl;omega)|(apply adP;rfl;rfl;omega)|(apply abh;rfl;rfl)|(apply abl;rfl;rfl)|(intro _;omega)|intro _
  all_goals try omega
  exact next _ _
theorem Ue {x z:Int}{s:Nat}(hx:0<=x/\x<18446744073709551616)(hs:s<=63) :
 (0<=x/2^s/\x/2^s<2^(64-s))/\(0<=z*2^(64-s)%18446744073709551616/\z*2^(64-s)%18446744073709551616<18446744073709551616)/\z*2^(64-s)%18446744073709551616%2^(64-s)=0 /\
   (0<=x/2^s+z*2^(64-s)%18446744073709551616/\x/2^s+z*2^(64-s)%18446744073709551616<18446744073709551616) /\
   2^s*(x/2^s+z*2^(64-s)%18446744073709551616)=x-x%2^s+18446744073709551616*(z%2^s):=by
 have hp2:=cd (n:=2) (m:=s) am;have hps:=vu (s:=s) ac;have hp3:=cd (n:=2) (m:=64-s) am;have e1:z*2^(64-s)%18446744073709551616=z%2^s*2^(64-s):=by
  rw[←hps,b8 z,b8 (2^s),Int.mul_emod_mul_of_pos _ _ hp3,b8]
 have h1:0<=x/2^s:=d8 hx.1 ac;have h2:x/2^s<2^(64-s):=cV hp2 (by rw[b8,hps];exact hx.2);have h3:=i7 z (show (2:Int)^s≠0 by omega);have h4:=gU z hp2;have h5:=f6 x (2^s);have h6:2^s*(z%2^s*2^(64-s))=18446744073709551616*(z%2^s):=by
  rw[b8 (z%2^s),←b7,hps]
 have h7:0<=z%2^s*2^(64-s):=c6 h3 ac;have h8:(z%2^s+1)*2^(64-s)<=18446744073709551616:=by
  rw[←hps];exact be ac ac
 rw[dr,ff]at h8;have hm:0<=z*2^(64-s)%18446744073709551616/\z*2^(64-s)%18446744073709551616<18446744073709551616:=by omega
 refine⟨⟨h1,h2⟩,hm,by rw[e1];exact jj _ _,?_,?_⟩
 . rw[e1];omega
 . rw[e1,ci,h6];omega
theorem Uf {k N s:Nat}{U:List Int}{B0 B2:Option bR}(hs:s<=63)(lN:N<10000000)(hN:k+3<=N)(hU:U.length=N)(oU:okW wB U){Q:Ex->au->Prop}(a0 a1 a2 a3 a4 a5 a6 a8 aB aC aD:AV)(lo:List (Nat×AV))(wr:List Nat)
 (hQ:∀D aD lo wr,D.length=N->okW wB D->(2:Int)^s*WV wB (D.take (k+2))=WV wB (U.take (k+2))-U[0]! % 2^s+wB^(k+2)*(U[k+2]! % 2^s) ->
   Q (.exit 4) ⟨⟨[a0,a1,a2,a3,a4,a5,a6,.iV s,a8,.sl 1 0 N 1 (some N),.iV ((k+2:Nat):Int),aB,aC,aD,.iV ((k+2:Nat):Int),.iV ((k+2:Nat):Int)],lo,[B0,some (.cells (an D) 274),B2],[]⟩,wr⟩) :
 W M (.loop uW) ⟨⟨[a0,a1,a2,a3,a4,a5,a6,.iV s,a8,.sl 1 0 N 1 (some N),.iV ((k+2:Nat):Int),aB,aC,aD,.iV ((k+2:Nat):Int),.iV 0],lo,[B0,some (.cells (an U) 274),B2],[]⟩,wr⟩ Q:=by
 refine W.gn (k+2) (fun i s'=>∃D aD lo wr,s'=⟨⟨[a0,a1,a2,a3,a4,a5,a6,.iV s,a8,.sl 1 0 N 1 (some N),.iV ((k+2:Nat):Int),aB,aC,aD,.iV ((k+2:Nat):Int),.iV i],lo,[B0,some (.cells (an D) 274),B2],[]⟩,wr⟩ /\
  D.length=N/\okW wB D/\(∀k,i<=k->D[k]! = U[k]!)/\(2:Int)^s*WV wB (D.take i)=WV wB (U.take i)-U[0]! % 2^s+wB^i*(U[i]! % 2^s)) (fun i s' hi ⟨D,aD,lo,wr,hs',hD,oD,hk,hv⟩=>?_) (fun s' ⟨D,aD,lo,wr,hs',hD,oD,hk,hv⟩=>?_) (f7 _)
  ⟨_,_,_,_,rfl,hU,oU,fun k _=>rfl,by simp[WV];omega⟩
 . subst hs';have gx:=cj oU (i:=i) ac;obtain⟨x,hx⟩:∃x,x=U[i]! := ⟨_,rfl⟩;rw[←hx]at gx;have gx:0<=x/\x<18446744073709551616:=gx;have gz:=cj oU (i:=i+1) ac;obtain⟨z,hz⟩:∃z,z=U[i+1]! := ⟨_,rfl⟩;rw[←hz]at gz;have gz:0<=z/\z<18446744073709551616:=gz;obtain⟨w1,w2,w3,w4,w5⟩:=Ue (z:=z) gx hs;have f0:D[i]! = x:=by rw[hk i (bc _),hx]
   have f1:(D.set i (x/2^s))[i]! = x/2^s:=vi ac;have f2:(D.set i (x/2^s))[i+1]! = z:=by rw[gV ac,hk (i+1) ac,hz]
   have eI:0+((i:Int)).toNat*1=i:=by omega
   have eJ:0+((i:Int)+1).toNat*1=i+1:=by omega
   have fin:∀D' d,D'=D.set i d->d=x/2^s+z*2^(64-s)%18446744073709551616->D'.length=N/\okW wB D'/\(∀k,i+1<=k->D'[k]! = U[k]!)/\(2:Int)^s*WV wB (D'.take (i+1))=WV wB (U.take (i+1))-U[0]! % 2^s+wB^(i+1)*(U[i+1]! % 2^s):=fun D' d e ed=>by
    subst e;refine⟨by rw[az];exact hD,gq oD (by rw[ed];exact w4),fun k hk'=>by rw[gV ac];exact hk k ac,?_⟩;rw[fo (by rw[az];omega),vi ac,List.take_set_of_le (bc i),ci,hv,fo ac,←hx,←hz,ce];have e1:(2:Int)^s*(wB^i*d)=wB^i*(x-x%2^s+18446744073709551616*(z%2^s)):=by rw[←w5,←ed,←b7,b8 (2^s),b7]
    rw[e1,ci,g9,←b7 (wB^i) 18446744073709551616];show _=_+wB^i*18446744073709551616*_;omega
   unfold uW;by_cases h0:(0:Int)<s
   . repeat' first|(apply aet (v:=x);exact congrArg (fun z=>some (AV.ptr 1 z)) eI;rfl;omega;exact f0)|(apply aew (n:=s);rfl;rfl;rfl;omega)|(apply aee;exact congrArg (fun z=>some (AV.ptr 1 z)) eI;rfl;rfl;omega)|(apply aet (v:=x/2^s);exact congrArg (fun z=>some (AV.ptr 1 z)) eI;rfl;(rw[az];omega);exact f1)|(apply aet (v:=z);exact congrArg (fun z=>some (AV.ptr 1 z)) eJ;rfl;(rw[az];omega);exact f2)|(apply aeE (n:=64-s);rfl;rfl;omega;omega)|(apply aeM (64-s);rfl;rfl;exact w1;exact w2;omega;exact w3)|(apply aee;exact congrArg (fun z=>some (AV.ptr 1 z)) eI;rfl;rfl;(rw[az];omega))|apply aaQ|apply aa|apply aaf|apply aad|apply abI|apply abC|apply bE|apply adr|apply adI|(apply adO;rfl)|(apply adJ;rfl;rfl;(first|(simp only[nca];rfl)|rfl))|(apply adW;rfl;(first|(simp only[nca];rfl)|rfl);(first|(simp only[nca];rfl)|rfl))|(apply abz;rfl)|(apply acF;rfl)|(apply abR;rfl;rfl)|(apply abV;rfl;rfl)|(apply aco;rfl;rfl)|(apply acS;rfl;rfl;omega)|(apply adj;rfl;rfl;omega)|(apply adP;rfl;rfl;omega)|(apply abh;rfl;rfl)|(apply abl;rfl;rfl)|(intro _;omega)|intro _
     all_goals try omega
     obtain⟨f1,f2,f3,f4⟩:=fin _ _ (List.set_set _) rfl;exact cW ⟨_,_,_,_,rfl,f1,f2,f3,f4⟩
   . have e0:x/2^s=x/2^s+z*2^(64-s)%18446744073709551616:=by
      have:s=0:=by omega
      subst this;have:z*2^(64-0)%18446744073709551616=0:=by
       show z*18446744073709551616%18446744073709551616=0;omega
      omega
     repeat' first|(apply aet (v:=x);exact congrArg (fun z=>some (AV.ptr 1 z)) eI;rfl;omega;exact f0)|(apply aew (n:=s);rfl;rfl;rfl;omega)|(apply aee;exact congrArg (fun z=>some (AV.ptr 1 z)) eI;rfl;rfl;omega)|apply aaQ|apply aa|apply aaf|apply aad|apply abI|apply abC|apply bE|(apply abz;rfl)|(apply abx;rfl)|(apply adu;rfl)|(apply abR;rfl;rfl)|(apply abV;rfl;rfl)|(apply acw;rfl;rfl)|(apply acS;rfl;rfl;omega)|(apply adP;rfl;rfl;omega)|(apply abh;rfl;rfl)|(apply abl;rfl;rfl)|(intro _;omega)|intro _
     all_goals try omega
     obtain⟨f1,f2,f3,f4⟩:=fin _ _ rfl e0;exact cW ⟨_,_,_,_,rfl,f1,f2,f3,f4⟩
 . subst hs';unfold uW;repeat' first|apply aaQ|apply aa|apply aaf|apply aad|apply acH|apply bN|apply cX|(apply abx;rfl)|(apply abR;rfl;rfl)|(intro _;omega)|intro _
   all_goals try omega
   exact hQ D _ _ _ hD oD hv
theorem afg {t n b r:Nat}{k:IntKind}{x y:aO}{l:List aY}{pe:List AV}{lo:List (Nat×AV)}{hp:ae}{df wr:List Nat}{Q:au->Prop}(hx:(St.mk pe lo hp df).ah x=some (.sl b 0 n 1 cap))(hy:(St.mk pe lo hp df).ah y=some (.int k r))(h0:0<r)(hr:r<=n)(hc:∀c,cap=some c->n<=c)
 (h:WO M l ⟨⟨pe,(t,.sl b 0 r 1 cap)::lo,hp,df⟩,wr⟩ Q):WO M (⟨.l t,.slice .sl 1 x none (some y) none,none⟩::l) ⟨⟨pe,lo,hp,df⟩,wr⟩ Q:=
 aeK hx hy hr hc (by rw[show bO b r cap = .sl b 0 r 1 cap from if_pos h0];exact h)
theorem vy {L:List Int}{n:Nat}:L.take (aS (L.take n))=(L.take n).take (aS (L.take n)):=by
 have:=iJ (l:=L.take n);rw[b5]at this;rw[List.take_take,c7 ac]
theorem Ug {b rb:List Int}{k s:Nat}(hb:b.length=k+2)(ob:okW wB b)(nb:aR b)(hs:s=64-eo b[k+1]!)(lr:rb.length=k+3)(oR:okW wB rb)(vr:WV wB rb=WV wB b*2^s) :
 s<=63/\aS (rb.take (k+3))=k+2/\∃V Y,rb=V++Y/\V.length=k+2/\okW wB V/\WV wB V=WV wB b*2^s/\9223372036854775808<=V[k+1]! := by
 have t0:=nL nb ac;rw[hb,show k+2-1=k+1 by omega]at t0;have gt:=cj ob (i:=k+1) ac;have gt:0<=b[k+1]! /\ b[k+1]! < 18446744073709551616:=gt;obtain⟨s1,s2,s3⟩:=vo (x:=b[k+1]!) ac;have s4:=BX (x:=b[k+1]!) (n:=64) (by have:=gt.2;exact this) gt.1;have hs63:s<=63:=by omega
 have e0:=jQ (b:=wB) (l:=b) (n:=k+1) ac;obtain⟨t,ht⟩:∃t,t=b[k+1]! := ⟨_,rfl⟩;rw[←ht]at t0 gt s1 s2 s3 s4 e0 hs;obtain⟨n,hn⟩:∃n,eo t=n+1:=⟨eo t-1,ac⟩;rw[hn]at s2 s3 hs;rw[show n+1-1=n by omega]at s2;have p1:(2:Int)^n*2^s=9223372036854775808:=by rw[←d9,show n+s=63 by omega];decide
 have p2:(2:Int)^(n+1)*2^s=18446744073709551616:=by rw[←d9,show n+1+s=64 by omega];decide
 have hp2:=cd (n:=2) (m:=s) am;have m1:=be s2 (bj hp2);have m2:=be (show t+1<=2^(n+1) by omega) (bj hp2);rw[p1]at m1;rw[p2,dr,ff]at m2;have hP:0<wB^(k+1):=cd am;have l0:=cA (b:=wB) am (dL ob (k+1));have l1:=dz (b:=wB) am (dL ob (k+1));rw[b5,c7 ac]at l1;have m3:wB^(k+1)*9223372036854775808<=WV wB rb:=by
  have h1:=aZ m1 (bj hP);have h2:=c6 l0 (bj hp2);rw[vr,e0,dr,b7];omega
 have m4:WV wB rb<wB^(k+1)*18446744073709551616:=by
  have h1:=aZ m2 (bj hP);have h2:=cK l1 hp2;rw[ci]at h1;rw[vr,e0,dr,b7];omega
 have e1:=jQ (b:=wB) (l:=rb) (n:=k+2) ac;have e2:WV wB (rb.take (k+2))=WV wB (rb.take (k+1))+wB^(k+1)*rb[k+1]! := fo ac;have g2:=cj oR (i:=k+2) ac;have g1:=cj oR (i:=k+1) ac;have n2:=cA (b:=wB) am (dL oR (k+2));have n1:=dz (b:=wB) am (dL oR (k+1));rw[b5,c7 ac]at n1;have hPs:wB^(k+2)=wB^(k+1)*18446744073709551616:=ce _ _;have z2:rb[k+2]! = 0:=by
  rcases db 0 rb[k+2]! with h|h
  . have:=aZ (show 1<=rb[k+2]! by omega) (show 0<=wB^(k+2) by rw[hPs];omega);rw[hPs]at this e1;omega
  . have:=g2.1;omega
 rw[z2,cN,d6]at e1;have z1:9223372036854775808<=rb[k+1]! := by
  have:wB^(k+1)*9223372036854775808<wB^(k+1)*(rb[k+1]! + 1):=by rw[ci,iB];omega
  have:=d7 this (bj hP);omega
 refine⟨hs63,?_,rb.take (k+2),rb.drop (k+2),(fM _ _).symm,by rw[b5];omega,dL oR _,by rw[←e1,vr],?_⟩
 . rw[nK ac,if_pos z2,nK ac,if_neg ac]
 . have:(rb.take (k+2))[k+1]! = rb[k+1]! := by
    simp only[b6];rw[List.getElem?_take_of_lt ac]
   rw[this];exact z1
theorem Uh {a b U:List Int}{k s:Nat}(ha:k+2<=a.length)(oa:okW wB a)(hb:b.length=k+2)(ob:okW wB b)(nb:aR b)(hU:U.length=a.length+1)(oU:okW wB U)(vU:WV wB U=WV wB a*2^s) :
 WV wB (U.drop (a.length+1-(k+2)))<WV wB b*2^s:=by
 have hp2:=cd (n:=2) (m:=s) am;have e1:=kP (b:=wB) (l:=U) (i:=a.length+1-(k+2)) ac;have l0:=cA (b:=wB) am (dL oU (a.length+1-(k+2)));have l1:=dz (b:=wB) am oa;have hg:=pP (b:=wB) am ob nb ac;rw[hb,show k+2-1=k+1 by omega]at hg;have hP:0<wB^(a.length+1-(k+2)):=cd am;have ep:wB^a.length=wB^(a.length+1-(k+2))*wB^(k+1):=by rw[←d9,show a.length+1-(k+2)+(k+1)=a.length by omega]
 have m1:=cK l1 hp2;have m2:=be hg (bj hp2);rw[ep,b7]at m1;have:wB^(a.length+1-(k+2))*WV wB (U.drop (a.length+1-(k+2)))<wB^(a.length+1-(k+2))*(wB^(k+1)*2^s):=by omega
 have:=d7 this (bj hP);omega
theorem Ui {U D:List Int}{k s:Nat}{r:Int}(hU:k+3<=U.length)(oU:okW wB U)(hlt:WV wB U<wB^(k+2))(hr:WV wB U=(2:Int)^s*r)(hs:s<=63)
 (h:(2:Int)^s*WV wB (D.take (k+2))=WV wB (U.take (k+2))-U[0]! % 2^s+wB^(k+2)*(U[k+2]! % 2^s)):WV wB (D.take (k+2))=r:=by
 have hp2:=cd (n:=2) (m:=s) am;have hps:=vu (s:=s) ac;have e1:=kP (b:=wB) (l:=U) (i:=k+2) ac;have l0:=cA (b:=wB) am (dL oU (k+2));have l1:=cA (b:=wB) am (jd oU (k+2));have hP:0<wB^(k+2):=cd am;have z:WV wB (U.drop (k+2))=0:=by
  rcases db 0 (WV wB (U.drop (k+2))) with h|h
  . have:=aZ (show 1<=WV wB (U.drop (k+2)) by omega) (bj hP);omega
  . omega
 rw[z,cN,d6]at e1;have z2:U[k+2]! = 0:=by
  have d:=nJ (b:=wB) (l:=U) (i:=k+2) ac;have g:=cj oU (i:=k+2) ac;have l2:=cA (b:=wB) am (jd oU (k+2+1));have g:=g.1;rw[z]at d;have d:0=U[k+2]! + 18446744073709551616*WV wB (U.drop (k+2+1)):=d;omega
 have z0:U[0]! % 2^s=0:=by
  have d:=nJ (b:=wB) (l:=U) (i:=0) ac;rw[ii,hr]at d;refine Int.emod_eq_zero_of_dvd ⟨r-2^(64-s)*WV wB (U.drop (0+1)),?_⟩;rw[g9,←b7,hps];have d:(2:Int)^s*r=U[0]! + 18446744073709551616*WV wB (U.drop (0+1)):=d;omega
 rw[z0,z2,Int.zero_emod,cN,d6,gc,←e1,hr]at h;exact Int.eq_of_mul_eq_mul_left ac h
theorem IG {x y q u p:Int}(hp:0<p)(h:x*p=y*p*q+u)(h0:0<=u)(h1:u<y*p):q=x/y/\u=p*(x%y):=by
 have e:u=p*(x-y*q):=by
  rw[g9,←b7,b8 p x,b8 p y];omega
 have r0:0<=x-y*q:=by
  rcases db (x-y*q) 0 with h'|h'
  . have:=Int.mul_lt_mul_of_pos_left h' hp;rw[cN]at this;omega
  . exact h'
 have r1:x-y*q<y:=by
  have h2:p*(x-y*q)<p*y:=by rw[←e,b8 p y];exact h1
  exact d7 h2 (bj hp)
 obtain⟨g1,g2⟩:=nP (x:=x) (y:=y) (q:=q) (r:=x-y*q) ac r0 r1;exact⟨g1,by rw[e,g2]⟩
theorem Uj (C:IE M)(a b:List Int)(oa:okW wB a)(ob:okW wB b)(na:aR a)(nb:aR b)(la:a.length<1000000)(lb:b.length<1000000)(hb:b≠[]):rP M 220 [.vs (an a) a.length c1,.vs (an b) b.length c2] (WV wB a) (WV wB b):=by
 have a0:=cA (b:=wB) am oa;have b0:=(je (b:=wB) am ob nb).2 hb;have q286:=fun h=>C.rQ a b c1 c2 h oa ob na nb ac ac
 refine ID (by rw[C.ft];exact Ic) aq ?_;unfold BN;simp only[enter];by_cases hlt:WV wB a<WV wB b
 . have e:br (WV wB a-WV wB b) = -1:=if_pos ac;rw[e]at q286;repeat' first|apply aaQ|apply aa|apply aaf|apply aad|apply abw|apply aU|(apply abz;rfl)|(apply abR;rfl;rfl)|(apply abJ;rfl;rfl;first|exact q286 _)|(apply abh;rfl;rfl)|(apply abl;rfl;rfl)|(intro _;omega)|intro _
   all_goals try omega
   exact⟨.inr rfl,rfl,_,rfl,[],a,⟨iI,jP,(fF a0 hlt).symm⟩,⟨oa,na,(nO a0 hlt).symm⟩,kq.less⟩
 have hg:∃g,g=br (WV wB a-WV wB b):=⟨_,rfl⟩;obtain⟨g,hg⟩:=hg;have g0:0<=g:=by
  rw[hg];unfold br;split
  . omega
  . split <;> omega
 rw[←hg]at q286;have lb0:b.length≠0:=fun h=>hb (i5 h)
 by_cases hl1:b.length=1
 . have t0:=nL nb ac;rw[hl1,show 1-1=0 by omega]at t0;have gb:=cj ob (i:=0) ac;have vb:WV wB b=b[0]! := by
    have:=jQ (b:=wB) (l:=b) (n:=0) ac;simpa[WV] using this
   repeat' first|apply aaQ|apply aa|apply aaf|apply aad|apply abI|apply abC|(apply abz;rfl)|(apply abx;rfl)|(apply abR;rfl;rfl)|(apply acR;rfl;rfl)|(apply adj;rfl;rfl;omega)|(apply abJ;rfl;rfl;first|exact q286 _)|(apply aeh;rfl;rfl;omega)|(apply abh;rfl;rfl)|(apply abl;rfl;rfl)|(intro _;omega)|intro _
   all_goals try omega
   refine Uc (c1:=c1) (c2:=c2) C.toCb a b oa ob ac hl1 ac _ _ _ _ _ _ _ _ _ _ _ _ (fun L re lo wr hL oL hre hv=>?_);have q1:CT M (.fn (.func 288) [] []) [.sl 0 0 a.length 1 (some a.length)] [some (.cells (an L) 274)] ⟨bO 0 (aS (L.take a.length)) (some a.length),[some (.cells (an L) 274)],[]⟩:=C.kQ (cap:=some a.length) rfl ac ac (fun c hc=>by cases hc;exact bc _);have q2:CT M (.fn (.func 288) [] []) [.sl 1 0 1 1 (some 1)] [some (.cells (an L) 274),some (.cells (an [re]) 274)] ⟨bO 1 (aS ([re].take 1)) (some 1),[some (.cells (an L) 274),some (.cells (an [re]) 274)],[]⟩:=C.kQ (cap:=some 1) rfl aq ac (fun c hc=>by cases hc;exact bc _);repeat' first|apply aaQ|apply aa|apply aaf|apply aad|apply abw|apply aU|apply bJ|(apply adQ;rfl;rfl;first|exact q1|exact q2)|(apply acn;rfl;rfl;rfl)|(apply abh;rfl;rfl)|(apply abl;rfl;rfl)
   have hout:=kq.trim (d1:=some a.length) (d2:=some 1) (b1:=0) (b2:=1) (L1:=L) (L2:=[re]) (e1:=274) (e2:=274) (hp:=[some (.cells (an L) 274),some (.cells (an [re]) 274)]) (n1:=a.length) (n2:=1) rfl ac rfl aq;have vb':WV wB a=WV wB b*WV wB L+re:=by rw[vb];exact hv
   obtain⟨d1,d2⟩:=nP vb' hre.1 (by rw[vb];exact hre.2);refine⟨.inr rfl,rfl,_,rfl,_,_,?_,?_,hout⟩
   . rw[vy,aW (show L.length<=a.length by omega)];obtain⟨h1,h2,h3⟩:=mu oL;exact⟨h1,h2,by rw[h3,d1]⟩
   . rw[vy,aW (show [re].length<=1 by simp)];have gy:b[0]! < 18446744073709551616:=gb.2;obtain⟨h1,h2,h3⟩:=mu (L:=[re]) (fun x hx=>by rw[gT.1 hx];exact⟨hre.1,by show _<(18446744073709551616:Int);omega⟩);exact⟨h1,h2,by rw[h3,←d2];simp[WV]⟩
 obtain⟨k,hk⟩:∃k,b.length=k+2:=⟨b.length-2,ac⟩;have ha:k+2<=a.length:=by
  rcases m8 a.length (k+2) with h|h
  . exact absurd (nM (b:=wB) am oa ob nb ac) hlt
  . exact h
 obtain⟨s,hs⟩:∃s,s=64-eo b[((b.length:Int)-1).toNat]! := ⟨_,rfl⟩;have gt:=cj ob (i:=((b.length:Int)-1).toNat) ac;have q289:=fun h=>C.rL b[((b.length:Int)-1).toNat]! h gt
 rw[←hs]at q289;rw[show ((b.length:Int)-1).toNat=k+1 by omega]at hs;have s63:s<=63:=by
  have t0:=nL nb ac;rw[show b.length-1=k+1 by omega]at t0;have gt:=cj ob (i:=k+1) ac;have:=(vo (x:=b[k+1]!) ac).1;omega
 obtain⟨rb,⟨lrb,orb,vrb⟩,h290b⟩:=Iw (c1:=c2) C.ft b ob ac s s63 [];obtain⟨_,htop,V,Y,eV,lV,oV,vV,tV⟩:=Ug hk ob nb hs ac orb vrb;obtain⟨U0,⟨lU0,oU0,vU0⟩,h290a⟩:=Iw (c1:=c1) C.ft a oa ac s s63 [some (.cells (an (V++Y)) 274)];have q290b:CT M (.fn (.func 290) [] []) [.vs (an b) b.length c2,.iV s] [] ⟨.sl 0 0 (b.length+1) 1 (some (b.length+1)),[some (.cells (an (V++Y)) 274)],[]⟩:=by
  rw[←eV];exact CT.run (fi:=[]) (ca:=[]) (C.rO _ _) h290b
 have q288b:CT M (.fn (.func 288) [] []) [.sl 0 0 (b.length+1) 1 (some (b.length+1))] [some (.cells (an (V++Y)) 274)] ⟨.sl 0 0 (k+2) 1 (some (b.length+1)),[some (.cells (an (V++Y)) 274)],[]⟩:=by
  have:=C.kQ (cap:=some (b.length+1)) (b:=0) (n:=b.length+1) (L:=V++Y) (e:=274) (hp:=[some (.cells (an (V++Y)) 274)]) rfl (by rw[←eV];omega) ac (fun c hc=>by cases hc;exact bc _);rw[←eV,show b.length+1=k+3 by omega,htop,←show b.length+1=k+3 by omega,eV]at this;exact this
 have q290a:CT M (.fn (.func 290) [] []) [.vs (an a) a.length c1,.iV s] [some (.cells (an (V++Y)) 274)] ⟨.sl 1 0 (a.length+1) 1 (some (a.length+1)),[some (.cells (an (V++Y)) 274),some (.cells (an U0) 274)],[]⟩:=CT.run (fi:=[]) (ca:=[]) (C.rO _ _) h290a;repeat' first|apply aaQ|apply aa|apply aaf|apply aad|apply abI|apply abC|(apply abx;rfl)|(apply abR;rfl;rfl)|(apply acR;rfl;rfl)|(apply acS;rfl;rfl;omega)|(apply adj;rfl;rfl;omega)|(apply abJ;rfl;rfl;first|exact q286 _|exact q289 _)|(apply adQ;rfl;rfl;first|exact q290b|exact q288b|exact q290a)|(apply adp;rfl;rfl;omega)|(apply aeh;rfl;rfl;omega)|(apply adL;rfl;exact fun _=>rfl;(first|omega|(simp only[az];omega)|(simp;omega));decide;rfl;case ia=>infer_instance)|(apply abh;rfl;rfl)|(apply abl;rfl;rfl)|(intro _;omega)|intro _
 all_goals try omega
 rw[show ((a.length:Int)-((k+2:Nat):Int)+1).toNat=a.length+1-(k+2) by omega];have hup:=Uh ha oa hk ob nb lU0 oU0 vU0;rw[←vV]at hup;refine Ud (cv:=some (b.length+1)) (cap:=some (a.length+1-(k+2))) C.toCd (k:=k) (N:=a.length+1) (V:=V) (Y:=Y) (U0:=U0) ac ac lV oV tV lU0 oU0 hup _ _ _ _ _ _ _ _ _ _ _ _ _ (fun U L lo wr lU oU lL oL hv hlU=>?_) _ ac;repeat' first|apply aaQ|apply aa|apply aaf|apply aad|apply abI|apply bJ|(apply abl;rfl;rfl)
 refine Uf (k:=k) (N:=a.length+1) (s:=s) s63 ac ac lU oU _ _ _ _ _ _ _ _ _ _ _ _ _ (fun D aD lo wr lD oD hD=>?_);have q1:CT M (.fn (.func 288) [] []) [.sl 2 0 (a.length+1-(k+2)) 1 (some (a.length+1-(k+2)))] [some (.cells (an (V++Y)) 274),some (.cells (an D) 274),some (.cells (an L) 274)] ⟨bO 2 (aS (L.take (a.length+1-(k+2)))) (some (a.length+1-(k+2))),[some (.cells (an (V++Y)) 274),some (.cells (an D) 274),some (.cells (an L) 274)],[]⟩:=C.kQ (cap:=some (a.length+1-(k+2))) rfl ac ac (fun c hc=>by cases hc;exact bc _);have q2:CT M (.fn (.func 288) [] []) [.sl 1 0 (k+2) 1 (some (a.length+1))] [some (.cells (an (V++Y)) 274),some (.cells (an D) 274),some (.cells (an L) 274)] ⟨bO 1 (aS (D.take (k+2))) (some (a.length+1)),[some (.cells (an (V++Y)) 274),some (.cells (an D) 274),some (.cells (an L) 274)],[]⟩:=C.kQ (cap:=some (a.length+1)) rfl ac ac (fun c hc=>by cases hc;omega);repeat' first|(apply afg (r:=k+2) (k:=.i64);rfl;rfl;omega;omega;(intro c hc;cases hc;exact bc _))|(apply afb;rfl;rfl;rfl;first|exact q1|exact q2)|apply aaQ|apply aa|apply aad|apply abw|apply bJ|apply adr|apply adI|(apply adO;rfl)|(apply abh;rfl;rfl)|(apply abl;rfl;rfl)
 have hout:=kq.trim (d1:=some (a.length+1-(k+2))) (d2:=some (a.length+1)) (b1:=2) (b2:=1) (L1:=L) (L2:=D) (e1:=274) (e2:=274) (hp:=[some (.cells (an (V++Y)) 274),some (.cells (an D) 274),some (.cells (an L) 274)]) (n1:=a.length+1-(k+2)) (n2:=k+2) rfl ac rfl ac;have hp2:=cd (n:=2) (m:=s) am;rw[vU0,vV]at hv;rw[vV]at hlU;obtain⟨d1,d2⟩:=IG hp2 hv (cA am oU) hlU;have lt:=dz (b:=wB) am oV;rw[lV,vV]at lt;have hr:=Ui ac oU ac d2 s63 hD;refine⟨.inr rfl,rfl,_,rfl,_,_,?_,?_,hout⟩
 . rw[vy,aW (show L.length<=a.length+1-(k+2) by omega)];obtain⟨h1,h2,h3⟩:=mu oL;exact⟨h1,h2,by rw[h3,d1]⟩
 . rw[vy];obtain⟨h1,h2,h3⟩:=mu (dL oD (k+2));exact⟨h1,h2,by rw[h3,hr]⟩
theorem Uk (hft:M.FT=FT)(b:List Int)(_ob:okW wB b)(_nb:aR b)(_hb:b≠[])(q286:∀h,M.ext 286 [.ab,.vs (an b) b.length c2] h=some ⟨.iV (-1),h,[]⟩):rP M 220 [.ab,.vs (an b) b.length c2] 0 (WV wB b):=by
 refine ID (by rw[hft];exact Ic) aq ?_;unfold BN;simp only[enter];repeat' first|apply aaQ|apply aa|apply aaf|apply aad|apply abw|apply aU|(apply abz;rfl)|(apply abR;rfl;rfl)|(apply abJ;rfl;rfl;first|exact q286 _)|(apply abh;rfl;rfl)|(apply abl;rfl;rfl)|(intro _;omega)|intro _
 all_goals try omega
 refine⟨.inr rfl,rfl,_,rfl,[],[],⟨iI,jP,by simp[WV]⟩,⟨iI,jP,by simp[WV]⟩,aV [.ab,.ab],.ab,.ab,.same rfl,rfl,rfl,.inr ⟨rfl,rfl⟩,.inr ⟨rfl,rfl⟩⟩
theorem Ce {h:ae}(l:List Int):rB h (an l):=uI (fun _=>.cons (.atom rfl) .nil) l
theorem dw.gI {h:ae}{x:AV}{l:List Int}(hx:dw x l):dv h x (.vs (an l) l.length none):=by
 rcases hx with rfl|⟨rfl,rfl⟩
 . exact dv.pF (Ce l)
 . exact .nil
def al (x:Int):Int:=if x<0 then -x else x
inductive aN:AV->Int->Prop
 | small {s:Int} (h : -9223372036854775808<=s/\s<9223372036854775808):aN (.agg [.int .i64 s,.ab]) s
 | fG {σ z:Int} {w:List Int} (hs:σ=1\/σ = -1) (ok:okW wB w) (nr:aR w) (hw:9223372036854775808<=WV wB w) (hz:z=σ*WV wB w):aN (.agg [.int .i64 σ,.vs (an w) w.length none]) z
def dQ (v:AV)(hh:ae)(v0:AV):Prop:=∃v1,eC hh v v1/\v1.top=0/\bD v1=v0
def de (M:ax)(g:Nat)(ars:List AV)(v0:AV):Prop:=∃v hh,dQ v hh v0/\bg M g ars [] ⟨v,hh,[]⟩
theorem jS {f N:Nat}{aP:List Nat}{res:List fw}{body:ao}{ars:List AV}{v0:AV}(hft:M.FT f=some ⟨N,aP,res,body⟩)(hN:ars.length<=N)
 (h:W M body ⟨⟨aP.map (fun t=>(ars[t]?).getD cG),[],[],[]⟩,[]⟩ fun e s=>(e = .normal\/e = .ret)/\s.s.cg=[]/\∃vs,dH s.s res=some vs/\dQ (aV vs) (if (aV vs).top<=0 then [] else s.s.hp) v0):de M f ars v0:=by
 obtain⟨v,hh,ho,h2⟩:=gS (P:=fun v hh=>dQ v hh v0) hft hN h;exact⟨v,hh,ho,h2⟩
theorem dQ.same {v v0:AV}{hh:ae}(ht:v.top=0)(hc:bD v=v0):dQ v hh v0:=⟨v,.same ht,ht,hc⟩
theorem Ul (hft:M.FT=FT)(s:Int)(hs : -9223372036854775808<=s/\s<9223372036854775808):bg M 260 [.iV s] [] ⟨.uV (al s),[],[]⟩:=by
 refine bY (by rw[hft];exact Tg) aq ?_;unfold Ii;simp only[enter];by_cases h:s<0
 . have e:al s = -s:=if_pos h;rw[e];by_cases h2:s = -9223372036854775808
   . subst h2;repeat' first|apply aaQ|apply aa|apply aaf|apply aad|apply abw|apply aU|(apply abz;rfl)|(apply abR;rfl;rfl)|(apply abh;rfl;rfl)|(apply abl;rfl;rfl)|(intro _;omega)|intro _
     all_goals try omega
     exact⟨.inr rfl,rfl,_,rfl,rfl,rfl⟩
   . repeat' first|apply aaQ|apply aa|apply aaf|apply aad|apply abw|apply aU|(apply abz;rfl)|(apply abR;rfl;rfl)|(apply aeG;rfl;omega)|(apply aeD;rfl;omega)|(apply abh;rfl;rfl)|(apply abl;rfl;rfl)|(intro _;omega)|intro _
     all_goals try omega
     exact⟨.inr rfl,rfl,_,rfl,rfl,rfl⟩
 . have e:al s=s:=if_neg h;rw[e];repeat' first|apply aaQ|apply aa|apply aaf|apply aad|apply abw|apply abC|(apply abx;rfl)|(apply abR;rfl;rfl)|(apply aeG;rfl;omega)|(apply abh;rfl;rfl)|(apply abl;rfl;rfl)|(intro _;omega)|intro _
   all_goals try omega
   exact⟨.inr rfl,rfl,_,rfl,rfl,rfl⟩
theorem IH {x:Int}{b:Nat}{e:TypeId}{hh:ae}{c:Option Nat}(hb:hh.at b=some (.cells (an [x]) e)):eC hh (.sl b 0 1 1 c) (.vs (an [x]) 1 none):=
 .sl (m:=an [x]) hb rfl rfl fun i y z hy hz=>by
  rw[hy]at hz;cases hz;exact .same (cR (ij _) hy)
theorem Um (hft:M.FT=FT)(rR:∀s h,(-9223372036854775808<=s/\s<9223372036854775808)->M.ext 260 [.iV s] h=some ⟨.uV (al s),h,[]⟩){v:AV}{z:Int}(hv:aN v z) :
 ∃x l,dw x l/\okW wB l/\aR l/\WV wB l=al z/\de M 219 [v] (.ay [.bool (decide (z<0)),x]):=by
 cases hv with
 | small h=>
  by_cases h0:z=0
  . subst h0;refine⟨.ab,[],.inr ⟨rfl,rfl⟩,iI,jP,rfl,?_⟩;refine jS (by rw[hft];exact BP) aq ?_;unfold uZ;simp only[enter];repeat' first|apply aaQ|apply aa|apply aaf|apply aad|apply abI|apply abw|apply aU|apply cQ|(apply abz;rfl)|(apply abx;rfl)|(apply acR;rfl;rfl)|(apply acn;rfl;rfl;rfl)|(apply abU;rfl;rfl;rfl)|(apply abh;rfl;rfl)|(apply abl;rfl;rfl)|(intro _;omega)|intro _
    all_goals try omega
    exact⟨.inr rfl,rfl,_,rfl,.same rfl rfl⟩
  . have gz:0<al z/\al z<18446744073709551616:=by unfold al;split <;> omega
    have ok:okW wB [al z]:=fun x hx=>by rw[gT.1 hx];exact⟨ac,gz.2⟩
    refine⟨.vs (an [al z]) 1 none,[al z],.inl rfl,ok,(BU aq).2 (by show al z≠0;omega),by simp[WV],?_⟩;refine jS (by rw[hft];exact BP) aq ?_;have q260:=fun h'=>rR z h' h
    unfold uZ;simp only[enter];by_cases hn:z<0
    . rw[decide_eq_true hn];repeat' first|(apply adN;rfl;rfl;(first|(simp only[nca];rfl)|rfl);first|exact q260 _)|apply aaQ|apply aa|apply aaf|apply aad|apply abI|apply abw|apply abC|apply bE|apply adr|apply adI|(apply adO;rfl)|(apply adJ;rfl;rfl;(first|(simp only[nca];rfl)|rfl))|(apply aeu;rfl)|(apply abx;rfl)|(apply abR;rfl;rfl)|(apply acR;rfl;rfl)|(apply acn;rfl;rfl;rfl)|(apply abU;rfl;rfl;rfl)|(apply abh;rfl;rfl)|(apply abl;rfl;rfl)|(intro _;omega)|intro _
      all_goals try omega
      refine⟨.inr rfl,rfl,_,rfl,.ay [.bool true,.vs (an [al z]) 1 none],.ay rfl (fun i a b ha hb=>?_),by simp[AV.top,bz,ij],by simp[bD,cC,kS]⟩;match i with
      | 0=>cases ha;cases hb;exact .same rfl
      | 1=>cases ha;cases hb;exact IH rfl
      | i+2=>cases ha
    . rw[decide_eq_false hn];repeat' first|(apply adN;rfl;rfl;(first|(simp only[nca];rfl)|rfl);first|exact q260 _)|apply aaQ|apply aa|apply aaf|apply aad|apply abI|apply abw|apply abC|apply bE|apply adr|apply adI|(apply adO;rfl)|(apply adJ;rfl;rfl;(first|(simp only[nca];rfl)|rfl))|(apply aeu;rfl)|(apply abx;rfl)|(apply abR;rfl;rfl)|(apply acR;rfl;rfl)|(apply acn;rfl;rfl;rfl)|(apply abU;rfl;rfl;rfl)|(apply abh;rfl;rfl)|(apply abl;rfl;rfl)|(intro _;omega)|intro _
      all_goals try omega
      refine⟨.inr rfl,rfl,_,rfl,.ay [.bool false,.vs (an [al z]) 1 none],.ay rfl (fun i a b ha hb=>?_),by simp[AV.top,bz,ij],by simp[bD,cC,kS]⟩;match i with
      | 0=>cases ha;cases hb;exact .same rfl
      | 1=>cases ha;cases hb;exact IH rfl
      | i+2=>cases ha
 | @fG σ z w hs ok nr hw hz=>
  refine⟨.vs (an w) w.length none,w,.inl rfl,ok,nr,?_,?_⟩
  . subst hz;unfold al;rcases hs with rfl|rfl
    . rw[if_neg ac];omega
    . rw[if_pos ac];omega
  cases w with
  | nil=>simp[WV]at hw
  | cons y w=>
  refine jS (by rw[hft];exact BP) aq ?_;unfold uZ;simp only[enter];rcases hs with rfl|rfl
  . have e:¬z<0:=by omega
    rw[decide_eq_false e];repeat' first|apply aaQ|apply aa|apply aaf|apply aad|apply abI|apply abw|apply aU|apply cQ|(apply adX;rfl)|(apply abz;rfl)|(apply abR;rfl;rfl)|(apply acn;rfl;rfl;rfl)|(apply abU;rfl;rfl;rfl)|(apply abh;rfl;rfl)|(apply abl;rfl;rfl)|(intro _;omega)|intro _
    all_goals try omega
    exact⟨.inr rfl,rfl,_,rfl,.same (by simp[aV,AV.top,bz,ij]) (by simp[aV,bD,cC,kS])⟩
  . have e:z<0:=by omega
    rw[decide_eq_true e];repeat' first|apply aaQ|apply aa|apply aaf|apply aad|apply abI|apply abw|apply aU|apply cQ|(apply adX;rfl)|(apply abz;rfl)|(apply abR;rfl;rfl)|(apply acn;rfl;rfl;rfl)|(apply abU;rfl;rfl;rfl)|(apply abh;rfl;rfl)|(apply abl;rfl;rfl)|(intro _;omega)|intro _
    all_goals try omega
    exact⟨.inr rfl,rfl,_,rfl,.same (by simp[aV,AV.top,bz,ij]) (by simp[aV,bD,cC,kS])⟩
def gg (neg:Bool)(n:Int):Int:=if neg then -n else n
theorem Cf {σ:Int}{l:List Int}{hh:ae}:dQ (aV [.agg [.iV σ,.vs (an l) l.length none]]) hh (.agg [.iV σ,.vs (an l) l.length none]):=.same (by simp[aV,AV.top,bz,ij]) (by simp[aV,bD,cC,kS])
theorem Un (hft:M.FT=FT)(neg:Bool){x:AV}{l:List Int}(hx:dw x l)(ok:okW wB l)(nr:aR l)(hl:l.length<1000000000):∃v0,aN v0 (gg neg (WV wB l))/\de M 261 [.bool neg,x] v0:=by
 rcases hx with rfl|⟨rfl,rfl⟩
 . by_cases h0:l.length=0
   . refine⟨.agg [.iV 0,.ab],?_,?_⟩
     . have:gg neg (WV wB l)=0:=by rw[i5 h0];cases neg <;> rfl
       rw[this];exact .small am
     refine jS (by rw[hft];exact rI) aq ?_;unfold pO;simp only[enter];repeat' first|apply aaQ|apply aa|apply aaf|apply aad|apply abI|apply abw|apply aU|apply cQ|(apply abz;rfl)|(apply acR;rfl;rfl)|(apply adS;rfl;rfl;exact⟨rfl,by first|exact bc _|decide|(simp[overwrite]),rfl⟩;rfl)|(apply abU;rfl;rfl;rfl)|(apply abh;rfl;rfl)|(intro _;omega)|intro _
     all_goals try omega
     exact⟨.inr rfl,rfl,_,rfl,.same rfl rfl⟩
   by_cases h1:l.length=1
   . obtain⟨y,hy⟩:∃y,y=l[(0:Int).toNat]! := ⟨_,rfl⟩;have gy:=cj ok (i:=0) ac;rw[show l[0]! = y from hy.symm]at gy;have gy:0<=y/\y<18446744073709551616:=gy;have ev:WV wB l=y:=by
      have:=jQ (b:=wB) (l:=l) (n:=0) ac;rw[show l[0]! = y from hy.symm]at this;simpa[WV] using this
     by_cases h:y<=9223372036854775807
     . refine⟨.agg [.iV (gg neg y),.ab],by rw[ev];exact .small (by unfold gg;split <;> omega),?_⟩;refine jS (by rw[hft];exact rI) aq ?_;unfold pO;simp only[enter];rw[hy]at h gy ⊢;cases neg
       . repeat' first|(apply aen;rfl;omega)|apply aaQ|apply aa|apply aaf|apply aad|apply abI|apply abw|apply aU|apply cQ|(apply abz;rfl)|(apply abx;rfl)|(apply acF;rfl)|(apply adZ;rfl;rfl)|(apply acR;rfl;rfl)|(apply aco;rfl;rfl)|(apply adS;rfl;rfl;exact⟨rfl,by first|exact bc _|decide|(simp[overwrite]),rfl⟩;rfl)|(apply adp;rfl;rfl;omega)|(apply adL;rfl;exact fun _=>rfl;(first|omega|(simp only[az];omega)|(simp;omega));decide;rfl;case ia=>infer_instance)|(apply abU;rfl;rfl;rfl)|(apply abh;rfl;rfl)|(intro _;omega)|intro _
         all_goals try omega
         exact⟨.inr rfl,rfl,_,rfl,.same rfl rfl⟩
       . repeat' first|(apply aen;rfl;omega)|(apply aeD;rfl;omega)|apply aaQ|apply aa|apply aaf|apply aad|apply abI|apply abw|apply aU|apply cQ|(apply abz;rfl)|(apply abx;rfl)|(apply acF;rfl)|(apply adZ;rfl;rfl)|(apply acR;rfl;rfl)|(apply aco;rfl;rfl)|(apply adS;rfl;rfl;exact⟨rfl,by first|exact bc _|decide|(simp[overwrite]),rfl⟩;rfl)|(apply adp;rfl;rfl;omega)|(apply adL;rfl;exact fun _=>rfl;(first|omega|(simp only[az];omega)|(simp;omega));decide;rfl;case ia=>infer_instance)|(apply abU;rfl;rfl;rfl)|(apply abh;rfl;rfl)|(intro _;omega)|intro _
         all_goals try omega
         exact⟨.inr rfl,rfl,_,rfl,.same rfl rfl⟩
     . refine⟨.agg [.iV (gg neg 1),.vs (an l) l.length none],.fG (w:=l) (by cases neg;exact .inl rfl;exact .inr rfl) ok nr (by rw[ev];omega) (by cases neg <;> simp[gg]),?_⟩;refine jS (by rw[hft];exact rI) aq ?_;unfold pO;simp only[enter];rw[hy]at h gy;cases neg;all_goals
       . repeat' first|apply aaQ|apply aa|apply aaf|apply aad|apply abI|apply abw|apply abC|apply aU|apply bE|apply cQ|(apply abz;rfl)|(apply abx;rfl)|(apply acF;rfl)|(apply adu;rfl)|(apply adZ;rfl;rfl)|(apply acR;rfl;rfl)|(apply aco;rfl;rfl)|(apply acw;rfl;rfl)|(apply adS;rfl;rfl;exact⟨rfl,by first|exact bc _|decide|(simp[overwrite]),rfl⟩;rfl)|(apply adp;rfl;rfl;omega)|(apply adL;rfl;exact fun _=>rfl;(first|omega|(simp only[az];omega)|(simp;omega));decide;rfl;case ia=>infer_instance)|(apply abU;rfl;rfl;rfl)|(apply abh;rfl;rfl)|(intro _;omega)|intro _
         all_goals try omega
         exact⟨.inr rfl,rfl,_,rfl,Cf⟩
   have h2:9223372036854775808<=WV wB l:=by
    have h:=pP (b:=wB) am ok nr ac;have h2:=ie (b:=wB) am (m:=1) (n:=l.length-1) ac;have h3:wB^1=18446744073709551616:=rfl;omega
   refine⟨.agg [.iV (gg neg 1),.vs (an l) l.length none],.fG (w:=l) (by cases neg;exact .inl rfl;exact .inr rfl) ok nr h2 (by cases neg <;> simp[gg]),?_⟩;refine jS (by rw[hft];exact rI) aq ?_;unfold pO;simp only[enter];cases neg;all_goals
   . repeat' first|apply aaQ|apply aa|apply aaf|apply aad|apply abI|apply abw|apply abC|apply aU|apply bE|apply cQ|(apply abz;rfl)|(apply abx;rfl)|(apply adu;rfl)|(apply acR;rfl;rfl)|(apply acw;rfl;rfl)|(apply adS;rfl;rfl;exact⟨rfl,by first|exact bc _|decide|(simp[overwrite]),rfl⟩;rfl)|(apply abU;rfl;rfl;rfl)|(apply abh;rfl;rfl)|(intro _;omega)|intro _
     all_goals try omega
     exact⟨.inr rfl,rfl,_,rfl,Cf⟩
 . refine⟨.agg [.iV 0,.ab],?_,?_⟩
   . have:gg neg (WV wB [])=0:=by cases neg <;> rfl
     rw[this];exact .small am
   refine jS (by rw[hft];exact rI) aq ?_;unfold pO;simp only[enter];cases neg;all_goals
   . repeat' first|apply aaQ|apply aa|apply aaf|apply aad|apply abI|apply abw|apply aU|apply cQ|(apply abz;rfl)|(apply acR;rfl;rfl)|(apply adS;rfl;rfl;exact⟨rfl,by first|exact bc _|decide|(simp[overwrite]),rfl⟩;rfl)|(apply abU;rfl;rfl;rfl)|(apply abh;rfl;rfl)|(intro _;omega)|intro _
     all_goals try omega
     exact⟨.inr rfl,rfl,_,rfl,.same rfl rfl⟩
set_option maxRecDepth 1000000
def vz:ao:=zR [zx 1 171 2 0,⟨.p 2,.alloc 171 [.iV (0),.ab],none⟩] (.seq (zR [zf 5 1 1,zd 6 1 5,⟨.l 7,.eq false (.ref .slice) (.l 6) (.c (.ab)),none⟩,zn 8 7,zg (zf 9 0 1) 8 true,zg (zd 10 1 9) 8 true,zg (zc 11 .neq 10 (-9223372036854775808)) 8 true,zp 12 8 11] (.cond (.l 12) (zR [zf 13 0 1,zd 14 1 13,⟨.l 15,.un .neg (.l 14),none⟩,⟨.l 16,.build [.iV (0),.ab] [(0,1,(.l 15))],none⟩,zs 2 2 16] (.ret)) (.skip))) (zR [zt 18 2 1,z1 19 219 18,zn 17 19,ze 20 0 17,ze 21 1 17,zw 3 20,zw 4 21] (zR [zm 22 3,zu 23 22,zm 24 4,z2 25 261 23 24,zs 2 2 25] (.ret))))
theorem II:FT 201=some ⟨26,[0,1,2,3,4],[.cell 2 true (.p 2)],vz⟩:=by kernel_rfl
def Cg:ao:=zR [zx 1 171 2 0,⟨.p 2,.alloc 171 [.iV (0),.ab],none⟩] (.seq (zR [zf 3 0 1,zd 4 1 3,zc 5 .lss 4 0] (.cond (.l 5) (zR [zt 6 2 1,z1 7 201 6,zs 2 2 7] (.ret)) (.skip))) (zR [zt 8 2 1,zs 2 2 8] (.ret)))
theorem IJ:FT 298=some ⟨9,[0,1,2],[.cell 2 true (.p 2)],Cg⟩:=by kernel_rfl
def Ch:ao:=zR [zx 1 171 2 0,zi 2 0] (zR [zf 3 0 1,zd 4 1 3,⟨.l 5,.mm false [(kI 1),(.l 4)],none⟩,⟨.l 6,.mm true [(kI (-1)),(.l 5)],none⟩,zw 2 6] (.ret))
theorem Uo:FT 230=some ⟨7,[0,1,2],[.var (.p 2)],Ch⟩:=by kernel_rfl
def pT:ao:=zR [zx 2 171 2 0,zx 3 171 2 1,⟨.p 4,.alloc 171 [.iV (0),.ab],none⟩] (.seq (zR [zf 10 1 2,zd 11 1 10,⟨.l 12,.eq false (.ref .slice) (.l 11) (.c (.ab)),none⟩,zn 13 12,zg (zf 14 1 3) 13 true,zg (zd 15 1 14) 13 true,⟨.l 16,.eq false (.ref .slice) (.l 15) (.c (.ab)),some ((.l 13),true)⟩,zp 17 13 16] (.cond (.l 17) (zR [zf 18 0 2,zd 19 1 18,zf 20 0 3,zd 21 1 20,zb 22 .add 19 21,zw 5 22] (zR [zm 23 5,zf 24 0 2,zd 25 1 24,zb 26 .gtr 23 25,zf 27 0 3,zd 28 1 27,zc 29 .gtr 28 0,⟨.l 30,.eq false .bool (.l 26) (.l 29),none⟩] (.cond (.l 30) (zR [zm 31 5,⟨.l 32,.build [.iV (0),.ab] [(0,1,(.l 31))],none⟩,zs 2 4 32] (.ret)) (.skip)))) (.skip))) (zR [zt 34 2 2,z1 35 219 34,zn 33 35,ze 36 0 33,ze 37 1 33,zw 6 36,zw 7 37] (zR [zt 39 2 3,z1 40 219 39,zn 38 40,ze 41 0 38,ze 42 1 38,zw 8 41,zw 9 42] (.seq (.block 0 (zR [zm 44 6,zm 45 8,⟨.l 46,.eq false .bool (.l 44) (.l 45),none⟩,zn 43 46] (.cond (.l 43) (zR [zm 47 6,zm 48 7,zm 49 9,z2 50 308 48 49,z2 51 261 47 50,zs 2 4 51] (.ret)) (zR [zm 53 7,zm 54 9,z2 55 286 53 54,zc 56 .geq 55 0,zn 52 56] (.cond (.l 52) (zR [zm 57 6,zm 58 7,zm 59 9,z2 60 309 58 59,z2 61 261 57 60,zs 2 4 61] (.ret)) (.skip)))))) (zR [zm 62 8,zm 63 9,zm 64 7,z2 65 309 63 64,z2 66 261 62 65,zs 2 4 66] (.ret))))))
theorem rS:FT 253=some ⟨67,[0,1,2,3,4,5,6,7,8,9],[.cell 2 true (.p 4)],pT⟩:=by kernel_rfl
def IK:ao:=zR [zx 2 171 2 0,zx 3 171 2 1,⟨.p 4,.alloc 171 [.iV (0),.ab],none⟩] (.seq (.draw [(zt 5 2 2,[]),(zt 6 2 3,[0]),(z1 7 201 6,[0]),(z2 8 253 5 7,[]),(zs 2 4 8,[])]) (.ret))
theorem Up:FT 263=some ⟨9,[0,1,2,3,4],[.cell 2 true (.p 4)],IK⟩:=by kernel_rfl
def IL:ao:=zR [zx 2 171 2 0,zx 3 171 2 1,zi 4 0] (.seq (zR [zf 5 1 2,zd 6 1 5,⟨.l 7,.eq false (.ref .slice) (.l 6) (.c (.ab)),none⟩,zn 8 7,zg (zf 9 1 3) 8 true,zg (zd 10 1 9) 8 true,⟨.l 11,.eq false (.ref .slice) (.l 10) (.c (.ab)),some ((.l 8),true)⟩,zp 12 8 11] (.cond (.l 12) (.seq (.block 0 (zR [zf 14 0 2,zd 15 1 14,zf 16 0 3,zd 17 1 16,zb 18 .lss 15 17,zn 13 18] (.cond (.l 13) (zR [zi 4 (-1)] (.ret)) (zR [zf 20 0 2,zd 21 1 20,zf 22 0 3,zd 23 1 22,zb 24 .gtr 21 23,zn 19 24] (.cond (.l 19) (zR [zi 4 1] (.ret)) (.skip)))))) (zR [zi 4 0] (.ret))) (.skip))) (zR [zt 25 2 2,zt 26 2 3,z2 27 263 25 26,z1 28 230 27,zw 4 28] (.ret)))
theorem Uq:FT 200=some ⟨29,[0,1,2,3,4],[.var (.p 4)],IL⟩:=by kernel_rfl
def pU:ao:=zR [zx 2 171 2 0,zx 3 171 2 1,⟨.p 4,.alloc 171 [.iV (0),.ab],none⟩] (.seq (zR [zf 11 1 2,zd 12 1 11,⟨.l 13,.eq false (.ref .slice) (.l 12) (.c (.ab)),none⟩,zn 14 13,zg (zf 15 1 3) 14 true,zg (zd 16 1 15) 14 true,⟨.l 17,.eq false (.ref .slice) (.l 16) (.c (.ab)),some ((.l 14),true)⟩,zp 18 14 17] (.cond (.l 18) (.seq (.draw [(zf 20 0 2,[]),(zd 21 1 20,[]),(z1 22 260 21,[]),(zf 23 0 3,[0,1,2]),(zd 24 1 23,[0,1,2]),(z1 25 260 24,[]),(z2 26 259 22 25,[]),(zn 19 26,[]),(ze 27 0 19,[]),(ze 28 1 19,[8]),(zw 5 27,[9]),(zw 6 28,[])]) (zR [zm 29 5,⟨.l 30,.bin .eql (.l 29) (kU 0),none⟩,zn 31 30,zg (zm 32 6) 31 true,⟨.l 33,.bin .leq (.l 32) (kU 9223372036854775807),some ((.l 31),true)⟩,zp 34 31 33] (.cond (.l 34) (.seq (zR [zf 35 0 2,zd 36 1 35,zc 37 .lss 36 0,zf 38 0 3,zd 39 1 38,zc 40 .lss 39 0,⟨.l 41,.eq true .bool (.l 37) (.l 40),none⟩] (.cond (.l 41) (zR [zm 42 6,⟨.l 43,.gW .i64 (.l 42),none⟩,⟨.l 44,.un .neg (.l 43),none⟩,⟨.l 45,.build [.iV (0),.ab] [(0,1,(.l 44))],none⟩,zs 2 4 45] (.ret)) (.skip))) (zR [zm 46 6,⟨.l 47,.gW .i64 (.l 46),none⟩,⟨.l 48,.build [.iV (0),.ab] [(0,1,(.l 47))],none⟩,zs 2 4 48] (.ret))) (.skip)))) (.skip))) (zR [zt 50 2 2,z1 51 219 50,zn 49 51,ze 52 0 49,ze 53 1 49,zw 7 52,zw 8 53] (zR [zt 55 2 3,z1 56 219 55,zn 54 56,ze 57 0 54,ze 58 1 54,zw 9 57,zw 10 58] (zR [zm 59 7,zm 60 9,⟨.l 61,.eq true .bool (.l 59) (.l 60),none⟩,zm 62 8,zm 63 10,z2 64 262 62 63,z2 65 261 61 64,zs 2 4 65] (.ret)))))
theorem rT:FT 199=some ⟨66,[0,1,2,3,4,5,6,7,8,9,10],[.cell 2 true (.p 4)],pU⟩:=by kernel_rfl
def IM:ao:=zR [⟨.p 1,.alloc 171 [.iV (0),.ab],none⟩] (zR [zm 3 0,⟨.l 4,.build [.iV (0),.ab] [(0,1,(.l 3))],none⟩,zs 2 1 4] (.ret))
theorem Ur:FT 196=some ⟨5,[0,2],[.cell 2 true (.p 1)],IM⟩:=by kernel_rfl
def pW:ao:=zR [zx 2 171 2 0,zx 3 171 2 1,⟨.p 4,.alloc 171 [.iV (0),.ab],none⟩,⟨.p 5,.alloc 171 [.iV (0),.ab],none⟩] (.seq (zR [zf 16 1 2,zd 17 1 16,⟨.l 18,.eq false (.ref .slice) (.l 17) (.c (.ab)),none⟩,zn 19 18,zg (zf 20 1 3) 19 true,zg (zd 21 1 20) 19 true,⟨.l 22,.eq false (.ref .slice) (.l 21) (.c (.ab)),some ((.l 19),true)⟩,zp 23 19 22,zn 24 23,zg (zf 25 0 2) 24 true,zg (zd 26 1 25) 24 true,zg (zc 27 .neq 26 (-9223372036854775808)) 24 true,zp 28 24 27] (.cond (.l 28) (.seq (.draw [(zf 29 0 2,[]),(zd 30 1 29,[]),(zf 31 0 3,[0,1]),(zd 32 1 31,[0,1]),(zb 33 .quo 30 32,[]),(zf 34 0 2,[0,1,2,3,4]),(zd 35 1 34,[0,1,2,3,4]),(zf 36 0 3,[0,1,2,3,4,5,6]),(zd 37 1 36,[0,1,2,3,4,5,6]),(zb 38 .rem 35 37,[0,1,2,3,4]),(zw 6 33,[5,6,7,8,9]),(zw 7 38,[])]) (.seq (zR [zm 39 7,zc 40 .lss 39 0] (.cond (.l 40) (.draw [(zm 41 6,[]),(zc 42 .sub 41 1,[]),(zm 43 7,[0,1]),(zf 44 0 3,[0,1,2]),(zd 45 1 44,[0,1,2]),(zb 46 .add 43 45,[0,1]),(zw 6 42,[2,3,4,5]),(zw 7 46,[])]) (.skip))) (zR [zm 47 6,⟨.l 48,.build [.iV (0),.ab] [(0,1,(.l 47))],none⟩,zm 49 7,⟨.l 50,.build [.iV (0),.ab] [(0,1,(.l 49))],none⟩,zs 2 4 48,zs 2 5 50] (.ret)))) (.skip))) (zR [zt 52 2 2,z1 53 219 52,zn 51 53,ze 54 0 51,ze 55 1 51,zw 8 54,zw 9 55] (zR [zt 57 2 3,z1 58 219 57,zn 56 58,ze 59 0 56,ze 60 1 56,zn 10 59,zw 10 60] (zR [zm 62 9,zm 63 10,z2 64 220 62 63,zn 61 64,ze 65 0 61,ze 66 1 61,zw 11 65,zw 12 66] (zR [zm 67 8,zm 68 11,z2 69 261 67 68,zm 70 8,zm 71 12,z2 72 261 70 71,⟨.p 13,.alloc 171 [.iV (0),.ab],none⟩,⟨.p 14,.alloc 171 [.iV (0),.ab],none⟩,zs 2 13 69,zs 2 14 72] (.seq (zR [zt 73 2 14,z1 74 230 73,zc 75 .lss 74 0] (.cond (.l 75) (.draw [(zt 76 2 13,[]),(⟨.l 77,.call (kF 196) [(kI 1)],none⟩,[0]),(z2 78 263 76 77,[]),(zt 79 2 14,[0,1,2]),(zt 80 2 3,[0,1,2,3]),(z2 81 253 79 80,[]),(zs 2 13 78,[]),(zs 2 14 81,[])]) (.skip))) (.seq (.draw [(zt 82 2 13,[]),(zt 83 2 14,[0]),(zs 2 4 82,[1]),(zs 2 5 83,[])]) (.ret))))))))
theorem rU:FT 299=some ⟨84,[0,1,2,3,4,5,6,7,8,9,11,12,13,14,15],[.cell 2 true (.p 4),.cell 2 true (.p 5)],pW⟩:=by kernel_rfl
def Ci:ao:=zR [zx 2 171 2 0,zx 3 171 2 1,⟨.p 4,.alloc 171 [.iV (0),.ab],none⟩] (.seq (zR [zt 7 2 3,z1 8 230 7,zc 9 .lss 8 0] (.cond (.l 9) (.draw [(zt 10 2 2,[]),(z1 11 201 10,[]),(zt 12 2 3,[0,1]),(z1 13 201 12,[]),(zs 2 2 11,[]),(zs 2 3 13,[])]) (.skip))) (zR [zt 15 2 2,zt 16 2 3,z2 17 299 15 16,zn 14 17,ze 18 0 14,ze 19 1 14,⟨.p 5,.alloc 171 [.iV (0),.ab],none⟩,⟨.l 6,.alloc 171 [.iV (0),.ab],none⟩,zs 2 5 18,zS 2 6 19] (zR [zt 20 2 5,zs 2 4 20] (.ret))))
theorem IN:FT 258=some ⟨21,[0,1,2,3,4,5],[.cell 2 true (.p 4)],Ci⟩:=by kernel_rfl
def vB:ao:=.seq (zR [zt 11 2 3,z1 12 230 11,zc 13 .neq 12 0] (.cond (.l 13) (.skip) (.exit 0))) (.block 1 (zR [zt 15 2 2,zt 16 2 3,z2 17 299 15 16,zn 14 17,ze 18 0 14,ze 19 1 14,⟨.l 5,.alloc 171 [.iV (0),.ab],none⟩,⟨.p 5,.alloc 171 [.iV (0),.ab],none⟩,zS 2 5 18,zs 2 5 19] (.draw [(zt 20 2 3,[]),(zt 21 2 5,[0]),(zs 2 2 20,[1]),(zs 2 3 21,[])])))
def IP:ao:=zR [zx 2 171 2 0,zx 3 171 2 1,⟨.p 4,.alloc 171 [.iV (0),.ab],none⟩] (.seq (.draw [(zt 7 2 2,[]),(z1 8 298 7,[]),(zt 9 2 3,[0,1]),(z1 10 298 9,[]),(zs 2 2 8,[]),(zs 2 3 10,[])]) (.seq (.block 0 (.loop vB)) (zR [zt 22 2 2,zs 2 4 22] (.ret))))
theorem Us:FT 229=some ⟨23,[0,1,2,3,4,6],[.cell 2 true (.p 4)],IP⟩:=by kernel_rfl
structure CI (M:ax)(N:Nat):Prop where
 ft:M.FT=FT
 lN:N<=500000
 rR:∀s h,(-9223372036854775808<=s/\s<9223372036854775808)->M.ext 260 [.iV s] h=some ⟨.uV (al s),h,[]⟩
 nN:∀(x y:Int) h,(0<=x/\x<18446744073709551616)->(0<=y/\y<18446744073709551616)->M.ext 259 [.uV x,.uV y] h=some ⟨.ay [.uV (x*y/18446744073709551616),.uV (x*y%18446744073709551616)],h,[]⟩
 mz:∀v z,aN v z->∃x l,dw x l/\okW wB l/\aR l/\WV wB l=al z/\∀h,M.ext 219 [v] h=some ⟨.ay [.bool (decide (z<0)),x],h,[]⟩
 jT:∀neg x l,dw x l->okW wB l->aR l->l.length<=1000001->∃v0,aN v0 (gg neg (WV wB l))/\∀h,M.ext 261 [.bool neg,x] h=some ⟨v0,h,[]⟩
 IQ:∀x l y m,dw x l->dw y m->okW wB l->okW wB m->l.length<=500000->m.length<=500000->∃r,okW wB r/\aR r/\WV wB r=WV wB l+WV wB m/\∀h,M.ext 308 [x,y] h=some ⟨.vs (an r) r.length none,h,[]⟩
 Cj:∀x l y m,dw x l->dw y m->okW wB l->okW wB m->aR l->aR m->l.length<=500000->m.length<=500000->WV wB m<=WV wB l->∃r,okW wB r/\aR r/\WV wB r=WV wB l-WV wB m/\∀h,M.ext 309 [x,y] h=some ⟨.vs (an r) r.length none,h,[]⟩
 IS:∀x l y m,dw x l->dw y m->okW wB l->okW wB m->l.length<=500000->m.length<=500000->∃r,okW wB r/\aR r/\WV wB r=WV wB l*WV wB m/\∀h,M.ext 262 [x,y] h=some ⟨.vs (an r) r.length none,h,[]⟩
 rQ:∀x l y m,dw x l->dw y m->okW wB l->okW wB m->aR l->aR m->l.length<=500000->m.length<=500000->∀h,M.ext 286 [x,y] h=some ⟨.iV (br (WV wB l-WV wB m)),h,[]⟩
theorem aN.out {v:AV}{z:Int}{hh:ae}(h:aN v z):dQ (aV [v]) hh v:=by
 cases h with
 | small=>exact .same rfl rfl
 | fG=>exact Cf
variable {N:Nat}
theorem CI.len (C:CI M N){z:Int}{l:List Int}(ok:okW wB l)(nr:aR l)(hv:WV wB l=al z)(hz:al z<wB^N):l.length<=500000:=
 j0 (gu (b:=wB) am ok nr (by rw[hv];exact hz)) C.lN
theorem Ut (C:CI M N){v:AV}{z:Int}(hv:aN v z)(hz:al z<wB^N):∃v0,aN v0 (-z)/\de M 201 [v] v0:=by
 obtain⟨x,l,hx,ok,nr,hl,q219⟩:=C.mz v z hv;have len:=C.len ok nr hl hz;obtain⟨v0,h0,q261⟩:=C.jT (!(decide (z<0))) x l hx ok nr ac;have ev:gg (!(decide (z<0))) (WV wB l) = -z:=by
  rw[hl];unfold gg al;by_cases h:z<0
  . simp[h]
  . simp[h]
 rw[ev]at h0;by_cases hsm:(∃s,v = .agg [.iV s,.ab])/\z ≠ -9223372036854775808
 . obtain⟨⟨s,rfl⟩,hne⟩:=hsm;cases hv with
   | small h=>
   refine⟨.agg [.iV (-z),.ab],.small ac,?_⟩;refine jS (by rw[C.ft];exact II) aq ?_;unfold vz;simp only[enter];repeat' first|apply aaQ|apply aa|apply aaf|apply aad|apply abw|apply aU|(apply abz;rfl)|(apply acF;rfl)|(apply adf;rfl;rfl)|(apply aco;rfl;rfl)|(apply adS;rfl;rfl;exact⟨rfl,by first|exact bc _|decide|(simp[overwrite]),rfl⟩;rfl)|(apply adR;rfl;(first|(focus((repeat' first|exact bS|assumption|apply cm);done))|exact cJ aq);rfl)|(apply aeD;rfl;omega)|(apply abU;rfl;rfl;rfl)|(apply abh;rfl;rfl)|(intro _;omega)|intro _
   all_goals try omega
   exact⟨.inr rfl,rfl,_,rfl,.same rfl rfl⟩
 . refine⟨v0,h0,jS (by rw[C.ft];exact II) aq ?_⟩;have out:=fun hh=>h0.out (hh:=hh)
   cases hv with
   | small h=>
    have hz:z = -9223372036854775808:=Decidable.byContradiction fun h'=>hsm ⟨⟨z,rfl⟩,h'⟩
    subst hz;unfold vz;simp only[enter];cases h0;all_goals
    . repeat' first|apply aaQ|apply aa|apply aaf|apply aad|apply abw|apply abC|(apply abx;rfl)|(apply acF;rfl)|(apply adf;rfl;rfl)|(apply aco;rfl;rfl)|(apply abJ;rfl;rfl;first|exact q219 _|exact q261 _)|(apply adS;rfl;rfl;exact⟨rfl,by first|exact bc _|decide|(simp[overwrite]),rfl⟩;rfl)|(apply adR;rfl;(first|(focus((repeat' first|exact bS|assumption|apply cm);done))|exact cJ aq);rfl)|(apply abU;rfl;rfl;rfl)|(apply abh;rfl;rfl)|(apply abl;rfl;rfl)|(intro _;omega)|intro _
      all_goals try omega
      all_goals exact⟨.inr rfl,rfl,_,rfl,out _⟩
   | @fG σ z w hs ok' nr' hw hz'=>
    cases w with
    | nil=>simp[WV]at hw
    | cons y w=>
    unfold vz;simp only[enter];by_cases hn:z<0
    all_goals
    . simp only[hn,decide_true,decide_false,Bool.not_true,Bool.not_false]at q219 q261;cases h0;all_goals
      . repeat' first|apply aaQ|apply aa|apply aaf|apply aad|apply abw|apply abC|(apply abx;rfl)|(apply adu;rfl)|(apply acw;rfl;rfl)|(apply abJ;rfl;rfl;first|exact q219 _|exact q261 _)|(apply adS;rfl;rfl;exact⟨rfl,by first|exact bc _|decide|(simp[overwrite]),rfl⟩;rfl)|(apply adR;rfl;(first|(focus((repeat' first|exact bS|assumption|apply cm);done))|exact cJ aq);rfl)|(apply abU;rfl;rfl;rfl)|(apply abh;rfl;rfl)|(apply abl;rfl;rfl)
        all_goals try omega
        all_goals exact⟨.inr rfl,rfl,_,rfl,out _⟩
theorem Uu (hft:M.FT=FT){v:AV}{z:Int}(hv:aN v z):bg M 230 [v] [] ⟨.iV (br z),[],[]⟩:=by
 refine bY (by rw[hft];exact Uo) aq ?_;have key:∀s:Int,(AV.iV (if (if s<1 then s else 1) > -1 then (if s<1 then s else 1) else -1)) = .iV (br s):=fun s=>by
  congr 1;unfold br;by_cases h:s<0
  . rw[if_pos h,if_pos (show s<1 by omega)];split <;> omega
  . rw[if_neg h];by_cases h1:0<s
    . rw[if_pos h1,if_neg (show ¬s<1 by omega)];rfl
    . obtain rfl:s=0:=by omega
      rfl
 cases hv with
 | small h=>
  unfold Ch;simp only[enter];repeat' first|apply aaQ|apply aa|apply aaf|apply aad|apply abw|(apply acn;rfl;rfl;rfl)|(apply abU;rfl;rfl;rfl)|(apply abh;rfl;rfl)|(apply abl;rfl;rfl)
  exact⟨.inr rfl,rfl,_,rfl,key z,rfl⟩
 | @fG σ z w hs ok nr hw hz=>
  have e:br z=σ:=by
   unfold br;rcases hs with rfl|rfl
   . rw[if_neg ac,if_pos ac]
   . rw[if_pos ac]
  have k:=key σ;rw[show br σ=br z by rw[e];rcases hs with rfl|rfl <;> rfl]at k;unfold Ch;simp only[enter];repeat' first|apply aaQ|apply aa|apply aaf|apply aad|apply abw|(apply acn;rfl;rfl;rfl)|(apply abU;rfl;rfl;rfl)|(apply abh;rfl;rfl)|(apply abl;rfl;rfl)
  exact⟨.inr rfl,rfl,_,rfl,k,rfl⟩
def t253:ao:=
 zR [zt 34 2 2,
      z1 35 219 34,
      zn 33 35,
      ze 36 0 33,
      ze 37 1 33,
      zw 6 36,
      zw 7 37]
    (
     zR [zt 39 2 3,
       z1 40 219 39,
       zn 38 40,
       ze 41 0 38,
       ze 42 1 38,
       zw 8 41,
       zw 9 42]
     (
      .seq (.block 0
       (
        zR [zm 44 6,
          zm 45 8,
          ⟨(.l 46),.eq false .bool (.l 44) (.l 45),none⟩,
          zn 43 46]
        (
         .cond (.l 43)
         (
          zR [zm 47 6,
            zm 48 7,
            zm 49 9,
            z2 50 308 48 49,
            z2 51 261 47 50,
            zs 2 4 51]
          (.ret))
         (
          zR [zm 53 7,
            zm 54 9,
            z2 55 286 53 54,
            zc 56 .geq 55 0,
            zn 52 56]
          (
           .cond (.l 52)
           (
            zR [zm 57 6,
              zm 58 7,
              zm 59 9,
              z2 60 309 58 59,
              z2 61 261 57 60,
              zs 2 4 61]
            (.ret))
           (.skip))))))
      (
       zR [zm 62 8,
         zm 63 9,
         zm 64 7,
         z2 65 309 63 64,
         z2 66 261 62 65,
         zs 2 4 66]
       (.ret))))
theorem Uv {l m r:List Int}(C:CI M N)(ok:okW wB r)(nr:aR r)(hr:WV wB r=WV wB l+WV wB m)(hl:WV wB l<wB^N)(hm:WV wB m<wB^N):r.length<=1000001:=by
 have hN:=C.lN;have hp:wB^(N+1)=wB^N*18446744073709551616:=ce _ _;have hp0:0<wB^N:=cd am;exact j0 (gu (b:=wB) am ok nr (n:=N+1) (by rw[hr,hp];omega)) ac
def kT (v0:AV)(res:List fw)(e:Ex)(s:au):Prop:=(e = .normal\/e = .ret)/\s.s.cg=[]/\∃vs,dH s.s res=some vs/\dQ (aV vs) (if (aV vs).top<=0 then [] else s.s.hp) v0
theorem cD {v0:AV}{res:List fw}{s:au}{vs:List AV}(hd:s.s.cg=[])(h:dH s.s res=some vs)(ho:dQ (aV vs) (if (aV vs).top<=0 then [] else s.s.hp) v0):kT v0 res .ret s:=⟨.inr rfl,hd,vs,h,ho⟩
theorem Uw (C:CI M N){s s' za zb:Int}{wa wb:AV}(ha:aN (.agg [.iV s,wa]) za)(hb:aN (.agg [.iV s',wb]) zb)(lza:al za<wB^N)(lzb:al zb<wB^N) :
 ∃v0,aN v0 (za+zb)/\∀a0 a1 a5 a6 a7 a8 a9 lo wr,W M t253 ⟨⟨[a0,a1,.ptr 0 0,.ptr 1 0,.ptr 2 0,a5,a6,a7,a8,a9],lo,[some (.cells [.iV s,wa] 171),some (.cells [.iV s',wb] 171),some (.cells [.iV 0,.ab] 171)],[]⟩,wr⟩ (kT v0 [.cell 2 true (.p 4)]):=by
 obtain⟨x,l,hx,okl,nrl,vl,q219a⟩:=C.mz _ za ha;obtain⟨y,m,hy,okm,nrm',vm,q219b⟩:=C.mz _ zb hb;have ll:=C.len okl nrl vl lza;have lm:=C.len okm nrm' vm lzb;have l0:=cA (b:=wB) am okl;have m0:=cA (b:=wB) am okm;have lN:=C.lN;by_cases hs:decide (za<0)=decide (zb<0)
 . obtain⟨r,okr,nrr,vr,q308⟩:=C.IQ x l y m hx hy okl okm ll lm;obtain⟨v0,h0,q261⟩:=C.jT (decide (za<0)) (.vs (an r) r.length none) r (.inl rfl) okr nrr (Uv C okr nrr vr (by rw[vl];exact lza) (by rw[vm];exact lzb));have ev:gg (decide (za<0)) (WV wB r)=za+zb:=by
    rw[vr,vl,vm];unfold gg al;by_cases h:za<0 <;> by_cases h':zb<0 <;> simp[h,h']at hs ⊢ <;> omega
   rw[ev]at h0;refine⟨v0,h0,fun a0 a1 a5 a6 a7 a8 a9 lo wr=>?_⟩;have out:=fun hh=>h0.out (hh:=hh)
   unfold t253;by_cases h:za<0 <;> by_cases h':zb<0 <;> simp only[h,h',decide_true,decide_false]at hs q219a q219b q261
   all_goals first|(exfalso;revert hs;decide)|skip
   all_goals
   . cases h0;all_goals
     . repeat' first|apply aaQ|apply aa|apply aaf|apply aad|apply abI|apply abw|apply aU|apply cQ|(apply abz;rfl)|(apply abJ;rfl;rfl;first|exact q219a _|exact q219b _|exact q308 _|exact q261 _)|(apply acn;rfl;rfl;rfl)|(apply aea;rfl;rfl;rfl)|(apply abh;rfl;rfl)|(apply abl;rfl;rfl)
       all_goals try omega
       all_goals exact cD rfl rfl (out _)
 have q286:=C.rQ x l y m hx hy okl okm nrl nrm' ll lm;by_cases hc:WV wB m<=WV wB l
 . obtain⟨g,hg⟩:∃g,g=br (WV wB l-WV wB m):=⟨_,rfl⟩;have g0:0<=g:=by rw[hg];unfold br;split <;> omega
   rw[←hg]at q286;obtain⟨r,okr,nrr,vr,q309⟩:=C.Cj x l y m hx hy okl okm nrl nrm' ll lm hc;obtain⟨v0,h0,q261⟩:=C.jT (decide (za<0)) (.vs (an r) r.length none) r (.inl rfl) okr nrr (j0 (gu (b:=wB) am okr nrr (n:=N) (by rw[vr,vl];omega)) ac);have ev:gg (decide (za<0)) (WV wB r)=za+zb:=by
    rw[vr,vl,vm];unfold gg al;by_cases h:za<0 <;> by_cases h':zb<0 <;> simp[h,h']at hs ⊢ <;> omega
   rw[ev]at h0;refine⟨v0,h0,fun a0 a1 a5 a6 a7 a8 a9 lo wr=>?_⟩;have out:=fun hh=>h0.out (hh:=hh)
   unfold t253;by_cases h:za<0 <;> by_cases h':zb<0 <;> simp only[h,h',decide_true,decide_false]at hs q219a q219b q261
   all_goals first|(exfalso;revert hs;decide)|skip
   all_goals
   . cases h0;all_goals
     . repeat' first|apply aaQ|apply aa|apply aaf|apply aad|apply abI|apply abw|apply aU|apply cQ|(apply abz;rfl)|(apply abx;rfl)|(apply adK;rfl;rfl)|(apply abJ;rfl;rfl;first|exact q219a _|exact q219b _|exact q286 _|exact q309 _|exact q261 _)|(apply acn;rfl;rfl;rfl)|(apply aea;rfl;rfl;rfl)|(apply abh;rfl;rfl)|(apply abl;rfl;rfl)|(intro _;omega)|intro _
       all_goals try omega
       all_goals exact cD rfl rfl (out _)
 . obtain⟨g,hg⟩:∃g,g=br (WV wB l-WV wB m):=⟨_,rfl⟩;have g0:g<0:=by rw[hg];unfold br;split <;> omega
   rw[←hg]at q286;obtain⟨r,okr,nrr,vr,q309⟩:=C.Cj y m x l hy hx okm okl nrm' nrl lm ll ac;obtain⟨v0,h0,q261⟩:=C.jT (decide (zb<0)) (.vs (an r) r.length none) r (.inl rfl) okr nrr (j0 (gu (b:=wB) am okr nrr (n:=N) (by rw[vr,vm];omega)) ac);have ev:gg (decide (zb<0)) (WV wB r)=za+zb:=by
    rw[vr,vl,vm];unfold gg al;by_cases h:za<0 <;> by_cases h':zb<0 <;> simp[h,h']at hs ⊢ <;> omega
   rw[ev]at h0;refine⟨v0,h0,fun a0 a1 a5 a6 a7 a8 a9 lo wr=>?_⟩;have out:=fun hh=>h0.out (hh:=hh)
   unfold t253;by_cases h:za<0 <;> by_cases h':zb<0 <;> simp only[h,h',decide_true,decide_false]at hs q219a q219b q261
   all_goals first|(exfalso;revert hs;decide)|skip
   all_goals
   . cases h0;all_goals
     . repeat' first|apply aaQ|apply aa|apply aaf|apply aad|apply abI|apply abw|apply abC|apply bE|(apply abx;rfl)|(apply adK;rfl;rfl)|(apply abJ;rfl;rfl;first|exact q219a _|exact q219b _|exact q286 _|exact q309 _|exact q261 _)|(apply acn;rfl;rfl;rfl)|(apply aea;rfl;rfl;rfl)|(apply abh;rfl;rfl)|(apply abl;rfl;rfl)|(intro _;omega)|intro _
       all_goals try omega
       all_goals exact cD rfl rfl (out _)
theorem Ux {x:Int}(h:9223372036854775808<=x/\x<18446744073709551616):IntKind.i64.wrap x=x-18446744073709551616:=by
 simp only[IntKind.wrap,IntKind.bits,IntKind.signed];simp;omega
theorem Uy {x:Int}(h : -18446744073709551616<=x/\x < -9223372036854775808):IntKind.i64.wrap x=x+18446744073709551616:=by
 simp only[IntKind.wrap,IntKind.bits,IntKind.signed];simp;omega
theorem afq {t:Nat}{x y:aO}{l:List aY}{pe:List AV}{lo:List (Nat×AV)}{hp:ae}{df wr:List Nat}{a b v:Int}{Q:au->Prop}(hx:(St.mk pe lo hp df).ah x=some (.iV a))(hy:(St.mk pe lo hp df).ah y=some (.iV b))(hv:IntKind.i64.wrap (a+b)=v)
 (h:WO M l ⟨⟨pe,(t,.iV v)::lo,hp,df⟩,wr⟩ Q):WO M (⟨.l t,.bin .add x y,none⟩::l) ⟨⟨pe,lo,hp,df⟩,wr⟩ Q:=
 abh (v:=.iV v) (by simp[bk,hx,hy,dy,hv]) rfl h
theorem du {f n:Nat}{aP:List Nat}{res:List fw}{body:ao}{ars:List AV}{v0:AV}(hft:M.FT f=some ⟨n,aP,res,body⟩)(hN:ars.length<=n)
 (h:W M body ⟨⟨aP.map (fun t=>(ars[t]?).getD cG),[],[],[]⟩,[]⟩ (kT v0 res)):de M f ars v0:=jS hft hN h
theorem UA (C:CI M N){a b:AV}{za zb:Int}(ha:aN a za)(hb:aN b zb)(lza:al za<wB^N)(lzb:al zb<wB^N):∃v0,aN v0 (za+zb)/\de M 253 [a,b] v0:=by
 by_cases hsm:(∃s s',a = .agg [.iV s,.ab]/\b = .agg [.iV s',.ab])/\(-9223372036854775808<=za+zb/\za+zb<9223372036854775808)
 . obtain⟨⟨s,s',rfl,rfl⟩,hr⟩:=hsm;cases ha with
   | small h=>
   cases hb with
   | small h'=>
   refine⟨.agg [.iV (za+zb),.ab],.small hr,?_⟩;refine du (by rw[C.ft];exact rS) aq ?_;unfold pT;simp only[enter];repeat' first|apply aaQ|apply aa|apply aaf|apply aad|apply abw|apply aU|(apply abz;rfl)|(apply acF;rfl)|(apply abV;rfl;rfl)|(apply aco;rfl;rfl)|(apply acS;rfl;rfl;omega)|(apply adS;rfl;rfl;exact⟨rfl,by first|exact bc _|decide|(simp[overwrite]),rfl⟩;rfl)|(apply adR;rfl;(first|(focus((repeat' first|exact bS|assumption|apply cm);done))|exact cJ aq);rfl)|(apply abU;rfl;rfl;rfl)|(apply abh;rfl;rfl)|(apply abl;rfl;rfl)|(intro _;omega)|intro _
   all_goals try omega
   all_goals exact cD rfl rfl (.same rfl rfl)
 . have main:∀{s s':Int} {wa wb:AV},a = .agg [.iV s,wa]->b = .agg [.iV s',wb]->∃v0,aN v0 (za+zb)/\∀a0 a1 a5 a6 a7 a8 a9 lo wr,W M t253 ⟨⟨[a0,a1,.ptr 0 0,.ptr 1 0,.ptr 2 0,a5,a6,a7,a8,a9],lo,[some (.cells [.iV s,wa] 171),some (.cells [.iV s',wb] 171),some (.cells [.iV 0,.ab] 171)],[]⟩,wr⟩ (kT v0 [.cell 2 true (.p 4)]):=
    fun e1 e2=>Uw C (e1 ▸ ha) (e2 ▸ hb) lza lzb
   cases ha with
   | small h=>
    cases hb with
    | small h'=>
     have hne:¬(-9223372036854775808<=za+zb/\za+zb<9223372036854775808):=fun hr=>hsm ⟨⟨_,_,rfl,rfl⟩,hr⟩
     obtain⟨v0,h0,tl⟩:=main rfl rfl;refine⟨v0,h0,du (by rw[C.ft];exact rS) aq ?_⟩;obtain⟨c,hc,hc2⟩:∃c,IntKind.i64.wrap (za+zb)=c/\(c=za+zb-18446744073709551616/\9223372036854775808<=za+zb\/c=za+zb+18446744073709551616/\za+zb < -9223372036854775808):=by
      rcases db (za+zb) 0 with h1|h1
      . exact⟨_,Uy ac,.inr ⟨rfl,ac⟩⟩
      . exact⟨_,Ux ac,.inl ⟨rfl,ac⟩⟩
     unfold pT;simp only[enter];repeat' first|(exact tl _ _ _ _ _ _ _ _ _)|(apply afq;rfl;rfl;exact hc)|apply aaQ|apply aa|apply aaf|apply aad|apply abC|(apply abz;rfl)|(apply abx;rfl)|(apply acF;rfl)|(apply abV;rfl;rfl)|(apply aco;rfl;rfl)|(apply adR;rfl;(first|(focus((repeat' first|exact bS|assumption|apply cm);done))|exact cJ aq);rfl)|(apply abU;rfl;rfl;rfl)|(apply abh;rfl;rfl)|(apply abl;rfl;rfl)|(intro _;omega)|intro _
     all_goals try omega
    | @fG σ z w hs ok nr hw hz=>
     cases w with
     | nil=>simp[WV]at hw
     | cons y w=>
     obtain⟨v0,h0,tl⟩:=main rfl rfl;refine⟨v0,h0,du (by rw[C.ft];exact rS) aq ?_⟩;unfold pT;simp only[enter];repeat' first|(exact tl _ _ _ _ _ _ _ _ _)|apply aaQ|apply aa|apply aaf|apply aad|apply abC|(apply abx;rfl)|(apply acF;rfl)|(apply aco;rfl;rfl)|(apply adR;rfl;(first|(focus((repeat' first|exact bS|assumption|apply cm);done))|exact cJ aq);rfl)|(apply abU;rfl;rfl;rfl)|(apply abh;rfl;rfl)
     all_goals try omega
   | @fG σ z w hs ok nr hw hz=>
    cases w with
    | nil=>simp[WV]at hw
    | cons y w=>
    cases hb with
    | small h'=>
     obtain⟨v0,h0,tl⟩:=main rfl rfl;refine⟨v0,h0,du (by rw[C.ft];exact rS) aq ?_⟩;unfold pT;simp only[enter];repeat' first|(exact tl _ _ _ _ _ _ _ _ _)|apply aaQ|apply aa|apply aaf|apply aad|apply abC|(apply abx;rfl)|(apply adu;rfl)|(apply acw;rfl;rfl)|(apply adR;rfl;(first|(focus((repeat' first|exact bS|assumption|apply cm);done))|exact cJ aq);rfl)|(apply abU;rfl;rfl;rfl)|(apply abh;rfl;rfl)
     all_goals try omega
    | @fG σ' z' w' hs' ok' nr' hw' hz'=>
     cases w' with
     | nil=>simp[WV]at hw'
     | cons y' w'=>
     obtain⟨v0,h0,tl⟩:=main rfl rfl;refine⟨v0,h0,du (by rw[C.ft];exact rS) aq ?_⟩;unfold pT;simp only[enter];repeat' first|(exact tl _ _ _ _ _ _ _ _ _)|apply aaQ|apply aa|apply aaf|apply aad|apply abC|(apply abx;rfl)|(apply adu;rfl)|(apply acw;rfl;rfl)|(apply adR;rfl;(first|(focus((repeat' first|exact bS|assumption|apply cm);done))|exact cJ aq);rfl)|(apply abU;rfl;rfl;rfl)|(apply abh;rfl;rfl)
     all_goals try omega
def Ck (M:ax)(N g:Nat)(f:Int->Int):Prop:=∀v z,aN v z->al z<wB^N->∃v0,aN v0 (f z)/\∀h,M.ext g [v] h=some ⟨v0,h,[]⟩
def vC (M:ax)(N g:Nat)(f:Int->Int->Int):Prop:=∀a b x y,aN a x->aN b y->al x<wB^N->al y<wB^N->∃v0,aN v0 (f x y)/\∀h,M.ext g [a,b] h=some ⟨v0,h,[]⟩
structure Cl (M:ax)(N:Nat):Prop extends CI M N where
 mA:Ck M N 201 (fun z=>-z)
 vD:vC M N 253 (· + ·)
structure CJ (M:ax)(N:Nat):Prop extends Cl M N where
 Cm:vC M N 263 (· - ·)
 mB:∀v z,aN v z->∀h,M.ext 230 [v] h=some ⟨.iV (br z),h,[]⟩
theorem jt {z:Int}:al (-z)=al z:=by unfold al;split <;> split <;> omega
theorem UB (C:Cl M N){a b:AV}{x y:Int}(ha:aN a x)(hb:aN b y)(lx:al x<wB^N)(ly:al y<wB^N):∃v0,aN v0 (x-y)/\de M 263 [a,b] v0:=by
 obtain⟨v1,h1,q201⟩:=C.mA b y hb ly;obtain⟨v0,h0,q253⟩:=C.vD a v1 x (-y) ha h1 lx (by rw[jt];exact ly);have h0:aN v0 (x-y):=by rw[Int.sub_eq_add_neg];exact h0
 refine⟨v0,h0,du (by rw[C.ft];exact Up) aq ?_⟩;have out:=fun hh=>h0.out (hh:=hh)
 unfold IK;simp only[enter];cases ha;all_goals
 . cases hb;all_goals
   . cases h0;all_goals
     . repeat' first|(apply adN;rfl;rfl;(first|(simp only[nca];rfl)|rfl);first|exact q201 _|exact q253 _)|(apply adS;rfl;rfl;exact⟨rfl,by first|exact bc _|decide|(simp[overwrite]),rfl⟩;rfl)|(apply adR;rfl;(first|(focus((repeat' first|exact bS|assumption|apply cm);done))|exact cJ aq);rfl)|apply aaQ|apply aa|apply aaf|apply aad|apply abw|apply adr|apply adI|(apply adJ;rfl;rfl;(first|(simp only[nca];rfl)|rfl))|(apply adW;rfl;(first|(simp only[nca];rfl)|rfl);(first|(simp only[nca];rfl)|rfl))|(apply abU;rfl;rfl;rfl)
       all_goals exact cD rfl rfl (out _)
theorem UC (C:CJ M N){v:AV}{z:Int}(hv:aN v z)(lz:al z<wB^N):∃v0,aN v0 (al z)/\de M 298 [v] v0:=by
 by_cases hn:z<0
 . obtain⟨v0,h0,q201⟩:=C.mA v z hv lz;have h0:aN v0 (al z):=by rw[show al z = -z from if_pos hn];exact h0
   refine⟨v0,h0,du (by rw[C.ft];exact IJ) aq ?_⟩;have out:=fun hh=>h0.out (hh:=hh)
   unfold Cg;simp only[enter];cases hv with
   | small h=>
    cases h0;all_goals
    . repeat' first|apply aaQ|apply aa|apply aaf|apply aad|apply abw|apply aU|(apply abz;rfl)|(apply abR;rfl;rfl)|(apply abJ;rfl;rfl;first|exact q201 _)|(apply adS;rfl;rfl;exact⟨rfl,by first|exact bc _|decide|(simp[overwrite]),rfl⟩;rfl)|(apply adR;rfl;(first|(focus((repeat' first|exact bS|assumption|apply cm);done))|exact cJ aq);rfl)|(apply abU;rfl;rfl;rfl)|(apply abh;rfl;rfl)|(intro _;omega)|intro _
      all_goals try omega
      all_goals exact cD rfl rfl (out _)
   | @fG σ z w hs ok nr hw hz=>
    have e:σ<0:=by rcases hs with rfl|rfl <;> omega
    cases h0;all_goals
    . repeat' first|apply aaQ|apply aa|apply aaf|apply aad|apply abw|apply aU|(apply abz;rfl)|(apply abR;rfl;rfl)|(apply abJ;rfl;rfl;first|exact q201 _)|(apply adS;rfl;rfl;exact⟨rfl,by first|exact bc _|decide|(simp[overwrite]),rfl⟩;rfl)|(apply adR;rfl;(first|(focus((repeat' first|exact bS|assumption|apply cm);done))|exact cJ aq);rfl)|(apply abU;rfl;rfl;rfl)|(apply abh;rfl;rfl)|(intro _;omega)|intro _
      all_goals try omega
      all_goals exact cD rfl rfl (out _)
 . have e:al z=z:=if_neg hn;rw[e];refine⟨v,hv,du (by rw[C.ft];exact IJ) aq ?_⟩;have out:=fun hh=>hv.out (hh:=hh)
   unfold Cg;simp only[enter];cases hv with
   | small h=>
    repeat' first|apply aaQ|apply aa|apply aaf|apply aad|apply abw|apply abC|(apply abx;rfl)|(apply abR;rfl;rfl)|(apply adS;rfl;rfl;exact⟨rfl,by first|exact bc _|decide|(simp[overwrite]),rfl⟩;rfl)|(apply adR;rfl;(first|(focus((repeat' first|exact bS|assumption|apply cm);done))|exact cJ aq);rfl)|(apply abU;rfl;rfl;rfl)|(apply abh;rfl;rfl)|(intro _;omega)|intro _
    all_goals try omega
    all_goals exact cD rfl rfl (out _)
   | @fG σ z w hs ok nr hw hz=>
    have e:¬σ<0:=by rcases hs with rfl|rfl <;> omega
    repeat' first|apply aaQ|apply aa|apply aaf|apply aad|apply abw|apply abC|(apply abx;rfl)|(apply abR;rfl;rfl)|(apply adS;rfl;rfl;exact⟨rfl,by first|exact bc _|decide|(simp[overwrite]),rfl⟩;rfl)|(apply adR;rfl;(first|(focus((repeat' first|exact bS|assumption|apply cm);done))|exact cJ aq);rfl)|(apply abU;rfl;rfl;rfl)|(apply abh;rfl;rfl)|(intro _;omega)|intro _
    all_goals try omega
    all_goals exact cD rfl rfl (out _)
theorem IT {x y:Int}:br (x-y)=if x<y then -1 else if y<x then 1 else 0:=by
 unfold br;by_cases h:x<y
 . rw[if_pos h,if_pos ac]
 . rw[if_neg h,if_neg ac];by_cases h':y<x
   . rw[if_pos h',if_pos ac]
   . rw[if_neg h',if_neg ac]
theorem UD (C:CJ M N){a b:AV}{x y:Int}(ha:aN a x)(hb:aN b y)(lx:al x<wB^N)(ly:al y<wB^N):de M 200 [a,b] (.iV (br (x-y))):=by
 obtain⟨v0,h0,q263⟩:=C.Cm a b x y ha hb lx ly;have q230:=C.mB v0 (x-y) h0;refine du (by rw[C.ft];exact Uq) aq ?_;unfold IL;simp only[enter];cases ha with
 | small h=>
  cases hb with
  | small h'=>
   by_cases h1:x<y
   . rw[IT,if_pos h1];repeat' first|apply aaQ|apply aa|apply aaf|apply aad|apply abI|apply abw|apply aU|apply cQ|(apply abz;rfl)|(apply acF;rfl)|(apply abR;rfl;rfl)|(apply aco;rfl;rfl)|(apply adR;rfl;(first|(focus((repeat' first|exact bS|assumption|apply cm);done))|exact cJ aq);rfl)|(apply abU;rfl;rfl;rfl)|(apply abh;rfl;rfl)|(apply abl;rfl;rfl)|(intro _;omega)|intro _
     all_goals try omega
     all_goals exact cD rfl rfl (.same rfl rfl)
   . rw[IT,if_neg h1];by_cases h2:y<x
     . rw[if_pos h2];repeat' first|apply aaQ|apply aa|apply aaf|apply aad|apply abI|apply abw|apply aU|apply cQ|(apply abz;rfl)|(apply abx;rfl)|(apply acF;rfl)|(apply abR;rfl;rfl)|(apply abV;rfl;rfl)|(apply aco;rfl;rfl)|(apply adR;rfl;(first|(focus((repeat' first|exact bS|assumption|apply cm);done))|exact cJ aq);rfl)|(apply abU;rfl;rfl;rfl)|(apply abh;rfl;rfl)|(apply abl;rfl;rfl)|(intro _;omega)|intro _
       all_goals try omega
       all_goals exact cD rfl rfl (.same rfl rfl)
     . rw[if_neg h2];repeat' first|apply aaQ|apply aa|apply aaf|apply aad|apply abI|apply abw|apply abC|apply aU|apply bE|(apply abz;rfl)|(apply abx;rfl)|(apply acF;rfl)|(apply abR;rfl;rfl)|(apply abV;rfl;rfl)|(apply aco;rfl;rfl)|(apply adR;rfl;(first|(focus((repeat' first|exact bS|assumption|apply cm);done))|exact cJ aq);rfl)|(apply abU;rfl;rfl;rfl)|(apply abh;rfl;rfl)|(apply abl;rfl;rfl)|(intro _;omega)|intro _
       all_goals try omega
       all_goals exact cD rfl rfl (.same rfl rfl)
  | @fG σ z w hs ok nr hw hz=>
   cases w with
   | nil=>simp[WV]at hw
   | cons u w=>
   repeat' first|apply aaQ|apply aa|apply aaf|apply aad|apply abw|apply abC|(apply abx;rfl)|(apply acF;rfl)|(apply aco;rfl;rfl)|(apply abJ;rfl;rfl;first|exact q263 _|exact q230 _)|(apply adR;rfl;(first|(focus((repeat' first|exact bS|assumption|apply cm);done))|exact cJ aq);rfl)|(apply abU;rfl;rfl;rfl)|(apply abh;rfl;rfl)|(apply abl;rfl;rfl)
   all_goals exact cD rfl rfl (.same rfl rfl)
 | @fG σ z w hs ok nr hw hz=>
  cases w with
  | nil=>simp[WV]at hw
  | cons u w=>
  cases hb;all_goals
  . repeat' first|apply aaQ|apply aa|apply aaf|apply aad|apply abw|apply abC|(apply abx;rfl)|(apply adu;rfl)|(apply acw;rfl;rfl)|(apply abJ;rfl;rfl;first|exact q263 _|exact q230 _)|(apply adR;rfl;(first|(focus((repeat' first|exact bS|assumption|apply cm);done))|exact cJ aq);rfl)|(apply abU;rfl;rfl;rfl)|(apply abh;rfl;rfl)|(apply abl;rfl;rfl)
    all_goals exact cD rfl rfl (.same rfl rfl)
theorem UE (hft:M.FT=FT)(s:Int):de M 196 [.iV s] (.agg [.iV s,.ab]):=by
 refine du (by rw[hft];exact Ur) aq ?_;unfold IM;simp only[enter];repeat' first|apply aaQ|apply aa|apply aaf|apply aad|apply abw|(apply adS;rfl;rfl;exact⟨rfl,by first|exact bc _|decide|(simp[overwrite]),rfl⟩;rfl)|(apply abU;rfl;rfl;rfl)|(apply abh;rfl;rfl)
 exact cD rfl rfl (.same rfl rfl)
end Go.Ab.Ch5.N
