/-
  Own work: chapter 6: the standing by the reference.
-/
import Derived.Test.YtciaaphffkhjeaaGreatDoorLib4
import Derived.Test.YtciaaphffkhjeaaGreatDoorLib2
import Derived.Test.YtciaaphffkhjeaaGreatDoorCh6Base
import Derived.Lib.Bytealg
import Derived.Test.YtciaaphffkhjeaaGreatDoorLib3
import Derived.Deep.Slices
import Derived.Deep.Strs
import Derived.Lib.SmallJoins
import Derived.ChangeSame
namespace Go.Ab.Ch6
open Go.Ab.Sort
variable {M:Mach} {cap c1 c2:Option Nat}
structure CSd (M:Mach):Prop extends CFs M where
 c98:∀ (l:List Card) cap h,l.length<1000→(∀ c∈l,okC c)→M.ext 98 [.vs (cardsC l) l.length cap] h=some ⟨.vs (ints (firstsL l)) (firstsL l).length none,h,[]⟩
 c101:∀ (l:List Int) (n:Int) h,l.length<1000000→M.ext 101 [.vs (ints l) l.length none,.int .i64 n] h=some ⟨.bool (decide (n∈l)),h,[]⟩
 c102:∀ (a b:Card) h,a.off.length<1000→b.off.length<1000→M.ext 102 [.agg (cardC a),.agg (cardC b)] h=some ⟨.int .i64 (offI a b),h,[]⟩
 c79:∀ idle ret h,M.ext 79 [.bool idle,.bool ret] h=some ⟨.agg (markC sNone 0 (noWhy idle ret)),h,[]⟩
 c80:∀ (P:List Place) v h,Sl placeC h v P→P.length<100000→M.ext 80 [v] h=some ⟨.vs (placesC (orderP P)) (orderP P).length none,h,[]⟩
theorem firsts_len {l:List Card}:(firstsL l).length≤l.length:=Nat.le_trans (List.length_filter_le _ _) (by rw [numsTo_length];exact Nat.le_refl _)
theorem loop49_0 (C:CSd M) (names:List Str) (hs:List Int) (step:Int) (l:List Card) (hl:l.length<1000) (hL:∀ c∈l,okC c) (i:Nat) (hi:i<l.length) (pc:0≤bestI l[((i:Int)).toNat]!) (o:AV) (w k y:Str) (v:Int) (K:Heap) {Q:Ex→StW→Prop} (a9:AV) (lo:List (Nat×AV)) (wr:List Nat)
 (hQ:∀ a9 lo wr,Q (.exit 2) ⟨⟨[.agg (vertC names hs step c1 c2),.vs (cardsC l) l.length cap,.ptr 0 0,.nilsl,.vs (ints (firstsL l)) (firstsL l).length none,o,.int .i64 i,.ptr K.length 0,.int .i64 l.length,a9],lo,K++[some (.cells (placeC ⟨w,rankS l i l[((i:Int)).toNat]!,k,v,y⟩) 74)],[]⟩,wr⟩) :
 W M (.loop b49_0) ⟨⟨[.agg (vertC names hs step c1 c2),.vs (cardsC l) l.length cap,.ptr 0 0,.nilsl,.vs (ints (firstsL l)) (firstsL l).length none,o,.int .i64 i,.ptr K.length 0,.int .i64 0,a9],lo,K++[some (.cells (placeC ⟨w,1,k,v,y⟩) 74)],[]⟩,wr⟩ Q:=by
 obtain ⟨c,hc⟩:∃ c,c=l[((i:Int)).toNat]! := ⟨_,rfl⟩
 have okc:okC c:=by rw [hc];exact card_get hL hi
 have q101:=fun h=>C.c101 (firstsL l) i h (by have:=firsts_len (l:=l);omega)
 refine W.loopI l.length (fun n s=>∃ a9 lo wr,s=⟨⟨[.agg (vertC names hs step c1 c2),.vs (cardsC l) l.length cap,.ptr 0 0,.nilsl,.vs (ints (firstsL l)) (firstsL l).length none,o,.int .i64 i,.ptr K.length 0,.int .i64 n,a9],lo,K++[some (.cells (placeC ⟨w,((1+(l.take n).countP (beats l i c):Nat):Int),k,v,y⟩) 74)],[]⟩,wr⟩) (fun n s hn ⟨a9,lo,wr,hs⟩=>?_) (fun s ⟨a9,lo,wr,hs⟩=>?_) (Nat.zero_le _) ⟨_,_,_,rfl⟩
 · subst hs
   have es:=count_take (p:=beats l i c) hn
   rw [show l[n]! = l[((n:Int)).toNat]! from rfl] at es
   have hcl:(l.take n).countP (beats l i c)≤n:=Nat.le_trans List.countP_le_length (by rw [List.length_take];exact Nat.min_le_left _ _)
   have okn:okC l[((n:Int)).toNat]! := card_get hL hn
   have q99:=fun h=>C.c99 l[((n:Int)).toNat]! h okn
   have bnd : -9223372036854775808≤((1+(l.take n).countP (beats l i c):Nat):Int)+1∧((1+(l.take n).countP (beats l i c):Nat):Int)+1<9223372036854775808:=by omega
   unfold b49_0
   by_cases hb:0≤bestI l[((n:Int)).toNat]!
   · have q100:=fun h=>C.c100 l[((n:Int)).toNat]! c h okn okc hb (by rw [hc];exact pc)
     have q102:=fun h=>C.c102 l[((n:Int)).toNat]! c h okn.2.2.1 okc.2.2.1
     have hA:aheadI l i c l[((n:Int)).toNat]! = if higherI l[((n:Int)).toNat]! c=0∧(i:Int)∈firstsL l then offI l[((n:Int)).toNat]! c else higherI l[((n:Int)).toNat]! c:=rfl
     generalize higherI l[((n:Int)).toNat]! c=x at *
     generalize offI l[((n:Int)).toNat]! c=y' at *
     rw [hc] at q100 q102
     by_cases hx:x=0
     · by_cases hm:(i:Int)∈firstsL l
       · rw [if_pos ⟨hx,hm⟩] at hA
         rw [decide_eq_true hm] at q101
         by_cases ea:0<aheadI l i c l[((n:Int)).toNat]!
         · have ea2:=ea
           rw [hA] at ea2
           have eb:beats l i c l[((n:Int)).toNat]! = true:=by
            rw [beats,decide_eq_true hb,Bool.true_and];exact decide_eq_true ea
           rw [eb,if_pos rfl] at es
           have e3:((1+(l.take (n+1)).countP (beats l i c):Nat):Int)=((1+(l.take n).countP (beats l i c):Nat):Int)+1:=by rw [es];omega
           repeat' first|(apply WD.cl0;rfl;rfl;(first|(simp only [List.nil_append,List.cons_append];rfl)|rfl);first|exact q100 _|exact q102 _)|(apply WO.stKj;rfl;rfl;exact ⟨rfl,by simp [placeC],rfl⟩;rfl)|(apply WO.add;rfl;rfl;exact bnd)|apply W.seq|apply SQn|apply W.region|apply WO.nil|apply W.block|apply W.skip|apply BQn|apply W.draw|apply WD.nil|(apply WD.pure1;rfl)|(apply WD.load1;rfl;rfl;(first|(simp only [List.nil_append,List.cons_append];rfl)|rfl))|(apply W.condT;rfl)|(apply W.condF;rfl)|(apply WO.gT;rfl)|(apply WO.lss;rfl;rfl;all_goals first|(intro _;exfalso;omega)|intro _)|(apply WO.gtr;rfl;rfl;all_goals first|(intro _;exfalso;omega)|intro _)|(apply WO.eql;rfl;rfl;all_goals first|(intro _;exfalso;omega)|intro _)|(apply WO.pkT;rfl;rfl)|(apply WO.add;rfl;rfl;omega)|(apply WO.cll;rfl;rfl;first|exact q99 _|exact q101 _)|(apply WO.ldK;rfl;(first|exact at_new|assumption|exact at_old at_new|exact at_old (at_old at_new)|exact at_old (at_old (at_old at_new))|exact at_put (by simp)|((repeat apply at_old);assumption));rfl)|(apply WO.iav;rfl;rfl;omega)|(apply WO.lda;rfl;exact fun _=>rfl;(first|omega|(simp only [List.length_set];omega)|(simp;omega));decide;rfl;case ia=>infer_instance)|(apply WO.pl;rfl;rfl)|(apply WO.pp;rfl;rfl)
           all_goals first|contradiction|(exfalso;omega)|skip
           all_goals exact LIn ⟨_,_,_,by rw [e3];rfl⟩
         · have ea2:=ea
           rw [hA] at ea2
           have eb:beats l i c l[((n:Int)).toNat]! = false:=by
            rw [beats,decide_eq_true hb,Bool.true_and];exact decide_eq_false ea
           rw [eb,if_neg (by decide),Nat.add_zero] at es
           repeat' first|(apply WD.cl0;rfl;rfl;(first|(simp only [List.nil_append,List.cons_append];rfl)|rfl);first|exact q100 _|exact q102 _)|apply W.seq|apply SQn|apply W.region|apply WO.nil|apply W.block|apply W.skip|apply BQn|apply W.draw|apply WD.nil|(apply WD.pure1;rfl)|(apply WD.load1;rfl;rfl;(first|(simp only [List.nil_append,List.cons_append];rfl)|rfl))|(apply W.condT;rfl)|(apply W.condF;rfl)|(apply WO.gT;rfl)|(apply WO.lss;rfl;rfl;all_goals first|(intro _;exfalso;omega)|intro _)|(apply WO.gtr;rfl;rfl;all_goals first|(intro _;exfalso;omega)|intro _)|(apply WO.eql;rfl;rfl;all_goals first|(intro _;exfalso;omega)|intro _)|(apply WO.pkT;rfl;rfl)|(apply WO.add;rfl;rfl;omega)|(apply WO.cll;rfl;rfl;first|exact q99 _|exact q101 _)|(apply WO.iav;rfl;rfl;omega)|(apply WO.lda;rfl;exact fun _=>rfl;(first|omega|(simp only [List.length_set];omega)|(simp;omega));decide;rfl;case ia=>infer_instance)|(apply WO.pl;rfl;rfl)|(apply WO.pp;rfl;rfl)
           all_goals first|contradiction|(exfalso;omega)|skip
           all_goals exact LIn ⟨_,_,_,by rw [es];rfl⟩
       · rw [if_neg (fun h=>hm h.2)] at hA
         rw [decide_eq_false hm] at q101
         have ea:¬ 0<aheadI l i c l[((n:Int)).toNat]! := by rw [hA];omega
         have eb:beats l i c l[((n:Int)).toNat]! = false:=by
          rw [beats,decide_eq_true hb,Bool.true_and];exact decide_eq_false ea
         rw [eb,if_neg (by decide),Nat.add_zero] at es
         repeat' first|(apply WD.cl0;rfl;rfl;(first|(simp only [List.nil_append,List.cons_append];rfl)|rfl);first|exact q100 _|exact q102 _)|apply W.seq|apply SQn|apply W.region|apply WO.nil|apply W.block|apply W.skip|apply BQn|apply W.draw|apply WD.nil|(apply WD.pure1;rfl)|(apply WD.load1;rfl;rfl;(first|(simp only [List.nil_append,List.cons_append];rfl)|rfl))|(apply W.condT;rfl)|(apply W.condF;rfl)|(apply WO.gT;rfl)|(apply WO.lss;rfl;rfl;all_goals first|(intro _;exfalso;omega)|intro _)|(apply WO.gtr;rfl;rfl;all_goals first|(intro _;exfalso;omega)|intro _)|(apply WO.eql;rfl;rfl;all_goals first|(intro _;exfalso;omega)|intro _)|(apply WO.pkT;rfl;rfl)|(apply WO.add;rfl;rfl;omega)|(apply WO.cll;rfl;rfl;first|exact q99 _|exact q101 _)|(apply WO.iav;rfl;rfl;omega)|(apply WO.lda;rfl;exact fun _=>rfl;(first|omega|(simp only [List.length_set];omega)|(simp;omega));decide;rfl;case ia=>infer_instance)|(apply WO.pl;rfl;rfl)|(apply WO.pp;rfl;rfl)
         all_goals first|contradiction|(exfalso;omega)|skip
         all_goals exact LIn ⟨_,_,_,by rw [es];rfl⟩
     · rw [if_neg (fun h=>hx h.1)] at hA
       by_cases ea:0<aheadI l i c l[((n:Int)).toNat]!
       · have ea2:=ea
         rw [hA] at ea2
         have eb:beats l i c l[((n:Int)).toNat]! = true:=by
          rw [beats,decide_eq_true hb,Bool.true_and];exact decide_eq_true ea
         rw [eb,if_pos rfl] at es
         have e3:((1+(l.take (n+1)).countP (beats l i c):Nat):Int)=((1+(l.take n).countP (beats l i c):Nat):Int)+1:=by rw [es];omega
         repeat' first|(apply WD.cl0;rfl;rfl;(first|(simp only [List.nil_append,List.cons_append];rfl)|rfl);first|exact q100 _|exact q102 _)|(apply WO.stKj;rfl;rfl;exact ⟨rfl,by simp [placeC],rfl⟩;rfl)|(apply WO.add;rfl;rfl;exact bnd)|apply W.seq|apply SQn|apply W.region|apply WO.nil|apply W.block|apply W.skip|apply BQn|apply W.draw|apply WD.nil|(apply WD.pure1;rfl)|(apply WD.load1;rfl;rfl;(first|(simp only [List.nil_append,List.cons_append];rfl)|rfl))|(apply W.condT;rfl)|(apply W.condF;rfl)|(apply WO.sT;rfl)|(apply WO.lss;rfl;rfl;all_goals first|(intro _;exfalso;omega)|intro _)|(apply WO.gtr;rfl;rfl;all_goals first|(intro _;exfalso;omega)|intro _)|(apply WO.eql;rfl;rfl;all_goals first|(intro _;exfalso;omega)|intro _)|(apply WO.pkF;rfl;rfl)|(apply WO.add;rfl;rfl;omega)|(apply WO.cll;rfl;rfl;first|exact q99 _|exact q101 _)|(apply WO.ldK;rfl;(first|exact at_new|assumption|exact at_old at_new|exact at_old (at_old at_new)|exact at_old (at_old (at_old at_new))|exact at_put (by simp)|((repeat apply at_old);assumption));rfl)|(apply WO.iav;rfl;rfl;omega)|(apply WO.lda;rfl;exact fun _=>rfl;(first|omega|(simp only [List.length_set];omega)|(simp;omega));decide;rfl;case ia=>infer_instance)|(apply WO.pl;rfl;rfl)|(apply WO.pp;rfl;rfl)
         all_goals first|contradiction|(exfalso;omega)|skip
         all_goals exact LIn ⟨_,_,_,by rw [e3];rfl⟩
       · have ea2:=ea
         rw [hA] at ea2
         have eb:beats l i c l[((n:Int)).toNat]! = false:=by
          rw [beats,decide_eq_true hb,Bool.true_and];exact decide_eq_false ea
         rw [eb,if_neg (by decide),Nat.add_zero] at es
         repeat' first|(apply WD.cl0;rfl;rfl;(first|(simp only [List.nil_append,List.cons_append];rfl)|rfl);first|exact q100 _|exact q102 _)|apply W.seq|apply SQn|apply W.region|apply WO.nil|apply W.block|apply W.skip|apply BQn|apply W.draw|apply WD.nil|(apply WD.pure1;rfl)|(apply WD.load1;rfl;rfl;(first|(simp only [List.nil_append,List.cons_append];rfl)|rfl))|(apply W.condT;rfl)|(apply W.condF;rfl)|(apply WO.sT;rfl)|(apply WO.lss;rfl;rfl;all_goals first|(intro _;exfalso;omega)|intro _)|(apply WO.gtr;rfl;rfl;all_goals first|(intro _;exfalso;omega)|intro _)|(apply WO.eql;rfl;rfl;all_goals first|(intro _;exfalso;omega)|intro _)|(apply WO.pkF;rfl;rfl)|(apply WO.add;rfl;rfl;omega)|(apply WO.cll;rfl;rfl;first|exact q99 _|exact q101 _)|(apply WO.iav;rfl;rfl;omega)|(apply WO.lda;rfl;exact fun _=>rfl;(first|omega|(simp only [List.length_set];omega)|(simp;omega));decide;rfl;case ia=>infer_instance)|(apply WO.pl;rfl;rfl)|(apply WO.pp;rfl;rfl)
         all_goals first|contradiction|(exfalso;omega)|skip
         all_goals exact LIn ⟨_,_,_,by rw [es];rfl⟩
   · have eb:beats l i c l[((n:Int)).toNat]! = false:=by rw [beats,decide_eq_false hb,Bool.false_and]
     rw [eb,if_neg (by decide),Nat.add_zero] at es
     repeat' first|apply W.seq|apply SQn|apply W.region|apply WO.nil|apply W.block|apply W.exit|apply W.skip|apply SQe|apply BQe|(apply W.condT;rfl)|(apply WO.lss;rfl;rfl;all_goals first|(intro _;exfalso;omega)|intro _)|(apply WO.add;rfl;rfl;omega)|(apply WO.cll;rfl;rfl;first|exact q99 _)|(apply WO.iav;rfl;rfl;omega)|(apply WO.lda;rfl;exact fun _=>rfl;(first|omega|(simp only [List.length_set];omega)|(simp;omega));decide;rfl;case ia=>infer_instance)|(apply WO.pl;rfl;rfl)|(apply WO.pp;rfl;rfl)
     all_goals first|(exfalso;omega)|skip
     all_goals exact LIn ⟨_,_,_,by rw [es];rfl⟩
 · subst hs
   rw [List.take_length]
   unfold b49_0
   repeat' first|apply W.seq|apply SQn|apply W.region|apply WO.nil|apply W.exit|apply SQe|apply LIe|(apply W.condF;rfl)|(apply WO.lss;rfl;rfl;all_goals first|(intro _;exfalso;omega)|intro _)|(apply WO.pl;rfl;rfl)
   rw [← hc] at hQ
   exact hQ _ _ _
set_option maxHeartbeats 2000000 in
theorem w49 (C:CSd M) (names:List Str) (hs:List Int) (step:Int) (l:List Card) (hl:l.length<1000) (hL:∀ c∈l,okC c) (hH:∀ c∈l,c.hs.length≤hs.length) :
 ∃ v hh,(∃ B,Fr hh B v (.vs (placesC (orderP (standS hs l))) (orderP (standS hs l)).length none))∧Run M 49 [.agg (vertC names hs step c1 c2),.vs (cardsC l) l.length cap] [] ⟨v,hh,[]⟩:=by
 have q98:=fun h=>C.c98 l cap h hl hL
 refine run_ofE (P:=fun v hh=>∃ B,Fr hh B v (.vs (placesC (orderP (standS hs l))) (orderP (standS hs l)).length none)) (by rw [C.ft];exact ft49) (by simp) ?_
 unfold b49
 simp only [enter]
 repeat' first|apply W.seq|apply SQn|apply W.region|apply WO.nil|apply W.block|(apply WO.cll;rfl;rfl;first|exact q98 _)|(apply WO.hpv;rfl;rfl;rfl)|(apply WO.pl;rfl;rfl)|(apply WO.pp;rfl;rfl)
 refine W.loopI l.length (fun i s=>∃ o a7 a8 a9 lo K wr,s=⟨⟨[.agg (vertC names hs step c1 c2),.vs (cardsC l) l.length cap,.ptr 0 0,.nilsl,.vs (ints (firstsL l)) (firstsL l).length none,o,.int .i64 i,a7,a8,a9],lo,K,[]⟩,wr⟩∧OutE placeC 5 74 K o ((standS hs l).take i) [0]∧K.at 0=some (.cells (vertC names hs step c1 c2) 27)) (fun i s hi ⟨o,a7,a8,a9,lo,K,wr,hs',ho,hK⟩=>?_) (fun s ⟨o,a7,a8,a9,lo,K,wr,hs',ho,hK⟩=>?_) (Nat.zero_le _) ⟨_,_,_,_,_,_,_,rfl,.ofNil,rfl⟩
 · subst hs'
   have hpl:i<(standS hs l).length:=by rw [standS_len];exact hi
   have e:=take_snoc' hpl
   rw [standS_get hi,show l[i]! = l[((i:Int)).toNat]! from rfl] at e
   have ok:=card_get hL hi
   rw [show l[i]! = l[((i:Int)).toNat]! from rfl] at ok
   have hm:l[((i:Int)).toNat]! ∈ l:=by rw [Int.toNat_natCast,getElem!_pos l i hi];exact List.getElem_mem hi
   have hlh:=hH _ hm
   have hbl:=(bestI_lt l[((i:Int)).toNat]!).2
   have q99:=fun h=>C.c99 l[((i:Int)).toNat]! h ok
   have room:((((standS hs l).take i).length+1)*64≤roomLimit):=by rw [List.length_take];unfold roomLimit;omega
   unfold b49_1
   by_cases pb:0≤bestI l[((i:Int)).toNat]!
   · have e1:placeS hs l i l[((i:Int)).toNat]! = ⟨(l[((i:Int)).toNat]!).who,rankS l i l[((i:Int)).toNat]!,sLength,hs[(bestI l[((i:Int)).toNat]!).toNat]!,[]⟩:=by rw [placeS,if_pos pb]
     have lp:=loop49_0 (c1:=c1) (c2:=c2) (cap:=cap) C names hs step l hl hL i hi pb
     by_cases hlen:(l[((i:Int)).toNat]!).hs.length=0
     · omega
     · have q79:=fun h=>C.c79 false (l[((i:Int)).toNat]!).ret h
       repeat' first|(apply WO.cll;rfl;rfl;first|exact q79 _|exact q99 _)|(apply WD.cl0;rfl;rfl;(first|(simp only [List.nil_append,List.cons_append];rfl)|rfl);first|exact q79 _|exact q99 _)|(apply WO.stKj;rfl;rfl;exact ⟨rfl,by simp [overwrite,markC],rfl⟩;rfl)|apply W.seq|apply SQn|apply W.region|apply WO.nil|apply W.block|apply W.skip|apply W.draw|apply WD.nil|(apply WD.pure1;rfl)|(apply WD.load1;rfl;rfl;(first|(simp only [List.nil_append,List.cons_append];rfl)|rfl))|(apply WD.store1;rfl;(first|(simp only [List.nil_append,List.cons_append];rfl)|rfl);(first|(simp only [List.nil_append,List.cons_append];rfl)|rfl))|(apply WD.new1;rfl)|(apply W.condT;rfl)|(apply WO.lss;rfl;rfl;all_goals first|(intro _;exfalso;omega)|intro _)|(apply WO.geq;rfl;rfl;all_goals first|(intro _;exfalso;omega)|intro _)|(apply WO.eql;rfl;rfl;all_goals first|(intro _;exfalso;omega)|intro _)|(apply WO.stK;rfl;rfl;exact ⟨rfl,by first|exact Nat.le_refl _|decide|(simp [overwrite]),rfl⟩;rfl)|(apply WO.ldK;rfl;(first|exact at_new|assumption|exact at_old at_new|exact at_old (at_old at_new)|exact at_old (at_old (at_old at_new))|exact at_put (by simp)|((repeat apply at_old);assumption));rfl)|(apply WO.iav;rfl;rfl;omega)|(apply WO.lda;rfl;exact fun _=>rfl;(first|omega|(simp only [List.length_set];omega)|(simp;omega));decide;rfl;case ia=>infer_instance)|(apply WO.ldf;rfl;exact fun _=>rfl;(first|omega|(simp only [List.length_set];omega)|(simp;omega));decide;rfl;case ia=>infer_instance)|(apply WO.hpv;rfl;rfl;rfl)|(apply WO.pl;rfl;rfl)|(apply WO.pp;rfl;rfl)
       all_goals first|contradiction|(exfalso;omega)|skip
       refine lp o (l[((i:Int)).toNat]!).who sLength [] hs[(bestI l[((i:Int)).toNat]!).toNat]! K _ _ _ (fun a9 lo wr=>?_)
       repeat' first|apply SQn|apply W.region|apply BQe|(apply WO.ldK;rfl;(first|exact at_new|assumption|exact at_old at_new|exact at_old (at_old at_new)|exact at_old (at_old (at_old at_new))|exact at_put (by simp)|((repeat apply at_old);assumption));rfl)|(apply WO.hlv;rfl;rfl;rfl)|(apply WO.pl;rfl;rfl)
       refine OutE.app (f:=placeC) (m:=[⟨(l[((i:Int)).toNat]!).who,rankS l i l[((i:Int)).toNat]!,sLength,hs[(bestI l[((i:Int)).toNat]!).toNat]!,[]⟩]) (S:=[0]) (fun _=>rfl) (fun _=>rfl) (by decide) ((ho.grow [_]).grow [_]) (by simp) rfl rfl (Sl.ofAt (f:=placeC) (esz:=5) (l:=[⟨(l[((i:Int)).toNat]!).who,rankS l i l[((i:Int)).toNat]!,sLength,hs[(bestI l[((i:Int)).toNat]!).toNat]!,[]⟩]) (e:=74) (fun _=>rfl) at_new rfl) room (fun H w' o' ho' hk hlen=>?_)
       repeat' first|apply SQn|apply W.region|apply WO.nil|apply BQn|(apply WO.add;rfl;rfl;omega)|(apply WO.pl;rfl;rfl)|(apply WO.pp;rfl;rfl)
       exact LIn ⟨_,_,_,_,_,_,_,rfl,by rw [e,e1];exact ho',hk _ _ (by simp) (at_old (at_old hK))⟩
   · have e1:placeS hs l i l[((i:Int)).toNat]! = ⟨(l[((i:Int)).toNat]!).who,0,sNone,0,noWhy (decide ((l[((i:Int)).toNat]!).hs.length=0)) (l[((i:Int)).toNat]!).ret⟩:=by rw [placeS,if_neg pb]
     by_cases hlen:(l[((i:Int)).toNat]!).hs.length=0
     · have q79:=fun h=>C.c79 true (l[((i:Int)).toNat]!).ret h
       rw [decide_eq_true hlen] at e1
       repeat' first|(apply WO.cll;rfl;rfl;first|exact q79 _|exact q99 _)|(apply WD.cl0;rfl;rfl;(first|(simp only [List.nil_append,List.cons_append];rfl)|rfl);first|exact q79 _|exact q99 _)|apply W.seq|apply SQn|apply W.region|apply WO.nil|apply W.block|apply W.skip|apply W.draw|apply WD.nil|(apply WD.pure1;rfl)|(apply WD.load1;rfl;rfl;(first|(simp only [List.nil_append,List.cons_append];rfl)|rfl))|(apply WD.store1;rfl;(first|(simp only [List.nil_append,List.cons_append];rfl)|rfl);(first|(simp only [List.nil_append,List.cons_append];rfl)|rfl))|(apply WD.new1;rfl)|(apply W.condT;rfl)|(apply W.condF;rfl)|(apply WO.lss;rfl;rfl;all_goals first|(intro _;exfalso;omega)|intro _)|(apply WO.geq;rfl;rfl;all_goals first|(intro _;exfalso;omega)|intro _)|(apply WO.eql;rfl;rfl;all_goals first|(intro _;exfalso;omega)|intro _)|(apply WO.stK;rfl;rfl;exact ⟨rfl,by first|exact Nat.le_refl _|decide|(simp [overwrite]),rfl⟩;rfl)|(apply WO.ldK;rfl;(first|exact at_new|assumption|exact at_old at_new|exact at_old (at_old at_new)|exact at_old (at_old (at_old at_new))|exact at_put (by simp)|((repeat apply at_old);assumption));rfl)|(apply WO.iav;rfl;rfl;omega)|(apply WO.lda;rfl;exact fun _=>rfl;(first|omega|(simp only [List.length_set];omega)|(simp;omega));decide;rfl;case ia=>infer_instance)|(apply WO.ldf;rfl;exact fun _=>rfl;(first|omega|(simp only [List.length_set];omega)|(simp;omega));decide;rfl;case ia=>infer_instance)|(apply WO.hlv;rfl;rfl;rfl)|(apply WO.hpv;rfl;rfl;rfl)|(apply WO.pl;rfl;rfl)
       all_goals first|contradiction|(exfalso;omega)|skip
       refine OutE.app (f:=placeC) (m:=[⟨(l[((i:Int)).toNat]!).who,0,sNone,0,noWhy true (l[((i:Int)).toNat]!).ret⟩]) (S:=[0]) (fun _=>rfl) (fun _=>rfl) (by decide) ((ho.grow [_]).grow [_]) (by simp) rfl rfl (Sl.ofAt (f:=placeC) (esz:=5) (l:=[⟨(l[((i:Int)).toNat]!).who,0,sNone,0,noWhy true (l[((i:Int)).toNat]!).ret⟩]) (e:=74) (fun _=>rfl) at_new rfl) room (fun H w' o' ho' hk hlen=>?_)
       repeat' first|apply SQn|apply W.region|apply WO.nil|apply BQn|(apply WO.add;rfl;rfl;omega)|(apply WO.pl;rfl;rfl)|(apply WO.pp;rfl;rfl)
       exact LIn ⟨_,_,_,_,_,_,_,rfl,by rw [e,e1];exact ho',hk _ _ (by simp) (at_old (at_old hK))⟩
     · have q79:=fun h=>C.c79 false (l[((i:Int)).toNat]!).ret h
       rw [decide_eq_false hlen] at e1
       repeat' first|(apply WO.cll;rfl;rfl;first|exact q79 _|exact q99 _)|(apply WD.cl0;rfl;rfl;(first|(simp only [List.nil_append,List.cons_append];rfl)|rfl);first|exact q79 _|exact q99 _)|apply W.seq|apply SQn|apply W.region|apply WO.nil|apply W.block|apply W.skip|apply W.draw|apply WD.nil|(apply WD.pure1;rfl)|(apply WD.load1;rfl;rfl;(first|(simp only [List.nil_append,List.cons_append];rfl)|rfl))|(apply WD.store1;rfl;(first|(simp only [List.nil_append,List.cons_append];rfl)|rfl);(first|(simp only [List.nil_append,List.cons_append];rfl)|rfl))|(apply WD.new1;rfl)|(apply W.condT;rfl)|(apply W.condF;rfl)|(apply WO.lss;rfl;rfl;all_goals first|(intro _;exfalso;omega)|intro _)|(apply WO.geq;rfl;rfl;all_goals first|(intro _;exfalso;omega)|intro _)|(apply WO.eql;rfl;rfl;all_goals first|(intro _;exfalso;omega)|intro _)|(apply WO.stK;rfl;rfl;exact ⟨rfl,by first|exact Nat.le_refl _|decide|(simp [overwrite]),rfl⟩;rfl)|(apply WO.ldK;rfl;(first|exact at_new|assumption|exact at_old at_new|exact at_old (at_old at_new)|exact at_old (at_old (at_old at_new))|exact at_put (by simp)|((repeat apply at_old);assumption));rfl)|(apply WO.iav;rfl;rfl;omega)|(apply WO.lda;rfl;exact fun _=>rfl;(first|omega|(simp only [List.length_set];omega)|(simp;omega));decide;rfl;case ia=>infer_instance)|(apply WO.ldf;rfl;exact fun _=>rfl;(first|omega|(simp only [List.length_set];omega)|(simp;omega));decide;rfl;case ia=>infer_instance)|(apply WO.hlv;rfl;rfl;rfl)|(apply WO.hpv;rfl;rfl;rfl)|(apply WO.pl;rfl;rfl)
       all_goals first|contradiction|(exfalso;omega)|skip
       refine OutE.app (f:=placeC) (m:=[⟨(l[((i:Int)).toNat]!).who,0,sNone,0,noWhy false (l[((i:Int)).toNat]!).ret⟩]) (S:=[0]) (fun _=>rfl) (fun _=>rfl) (by decide) ((ho.grow [_]).grow [_]) (by simp) rfl rfl (Sl.ofAt (f:=placeC) (esz:=5) (l:=[⟨(l[((i:Int)).toNat]!).who,0,sNone,0,noWhy false (l[((i:Int)).toNat]!).ret⟩]) (e:=74) (fun _=>rfl) at_new rfl) room (fun H w' o' ho' hk hlen=>?_)
       repeat' first|apply SQn|apply W.region|apply WO.nil|apply BQn|(apply WO.add;rfl;rfl;omega)|(apply WO.pl;rfl;rfl)|(apply WO.pp;rfl;rfl)
       exact LIn ⟨_,_,_,_,_,_,_,rfl,by rw [e,e1];exact ho',hk _ _ (by simp) (at_old (at_old hK))⟩
 · subst hs'
   rw [← standS_len hs l,List.take_length] at ho
   have q80:=C.c80 (standS hs l) o K (ho.sl (fun _=>rfl)) (by rw [standS_len];omega)
   unfold b49_1
   repeat' first|apply W.seq|apply SQn|apply W.region|apply WO.nil|apply W.ret|apply W.exit|apply SQe|apply BQe|apply LIe|(apply W.condF;rfl)|(apply WO.lss;rfl;rfl;all_goals first|(intro _;exfalso;omega)|intro _)|(apply WO.cll;rfl;rfl;first|exact q80)|(apply WO.pl;rfl;rfl)|(apply WO.pp;rfl;rfl)
   all_goals first|(exfalso;rw [standS_len] at *;omega)|skip
   exact ⟨.inr rfl,rfl,_,rfl,[],.same (topL_arr (fun _=>rfl) _)⟩
end Go.Ab.Ch6

/-
  Own work: chapter 6: the heights of the jump-off by the reference.
-/
namespace Go.Ab.Ch6
open Go.Ab.Sort
variable {M:Mach} {cap c1 c2:Option Nat}
theorem w52 (hft:M.FT=FT) (l:List Int) (hl:l.length<1000000):Run M 52 [.vs (ints l) l.length c1,.vs (ints l) l.length c2] [] ⟨.bool true,[],[]⟩:=by
 refine run_of_W (by rw [hft];exact ft52) (by simp) ?_
 unfold b52
 simp only [enter]
 repeat' first|apply W.seq|apply SQn|apply W.region|apply WO.nil|apply W.block|apply W.skip|(apply W.condF;rfl)|(apply WO.neq;rfl;rfl;all_goals first|(intro _;exfalso;omega)|intro _)|(apply WO.pl;rfl;rfl)|(apply WO.pp;rfl;rfl)
 refine W.loopI l.length (fun i s=>∃ lo wr,s=⟨⟨[.vs (ints l) l.length c1,.vs (ints l) l.length c2,.bool false,.int .i64 i],lo,[],[]⟩,wr⟩) (fun i s hi ⟨lo,wr,hs⟩=>?_) (fun s ⟨lo,wr,hs⟩=>?_) (Nat.zero_le _) ⟨_,_,rfl⟩
 · subst hs
   unfold b52_0
   repeat' first|apply W.seq|apply SQn|apply W.region|apply WO.nil|apply W.block|apply W.skip|apply BQn|(apply W.drawro;rfl)|(apply W.condT;rfl)|(apply W.condF;rfl)|(apply WO.lss;rfl;rfl;all_goals first|(intro _;exfalso;omega)|intro _)|(apply WO.neq;rfl;rfl;all_goals first|(intro _;exfalso;omega)|intro _)|(apply WO.add;rfl;rfl;omega)|(apply WO.iav;rfl;rfl;omega)|(apply WO.lda;rfl;exact fun _=>rfl;(first|omega|(simp only [List.length_set];omega)|(simp;omega));decide;rfl;case ia=>infer_instance)|(apply WO.pl;rfl;rfl)|(apply WO.pp;rfl;rfl)
   all_goals first|contradiction|exact LIn ⟨_,_,rfl⟩
 · subst hs
   unfold b52_0
   repeat' first|apply W.seq|apply SQn|apply W.region|apply WO.nil|apply W.ret|apply W.exit|apply SQe|apply BQe|apply LIe|(apply W.condF;rfl)|(apply WO.lss;rfl;rfl;all_goals first|(intro _;exfalso;omega)|intro _)|(apply WO.pl;rfl;rfl)|(apply WO.pp;rfl;rfl)
   exact ⟨.inr rfl,rfl,_,rfl,rfl,rfl⟩
theorem w51 (hft:M.FT=FT) (l:List Card) (hl:l.length<1000) (c98:∀ h,M.ext 98 [.vs (cardsC l) l.length cap] h=some ⟨.vs (ints (firstsL l)) (firstsL l).length none,h,[]⟩):Run M 51 [.vs (cardsC l) l.length cap] [] ⟨.bool (decide (0<(firstsL l).length)),[],[]⟩:=by
 refine run_of_W (by rw [hft];exact ft51) (by simp) ?_
 unfold b51
 simp only [enter]
 by_cases h:0<(firstsL l).length
 · repeat' first|apply W.seq|apply SQn|apply W.region|apply WO.nil|apply W.ret|(apply WO.gtr;rfl;rfl;all_goals first|(intro _;exfalso;omega)|intro _)|(apply WO.cll;rfl;rfl;first|exact c98 _)|(apply WO.pl;rfl;rfl)|(apply WO.pp;rfl;rfl)
   all_goals first|(exfalso;omega)|exact ⟨.inr rfl,rfl,_,rfl,by rw [decide_eq_true h];rfl,rfl⟩
 · repeat' first|apply W.seq|apply SQn|apply W.region|apply WO.nil|apply W.ret|(apply WO.gtr;rfl;rfl;all_goals first|(intro _;exfalso;omega)|intro _)|(apply WO.cll;rfl;rfl;first|exact c98 _)|(apply WO.pl;rfl;rfl)|(apply WO.pp;rfl;rfl)
   all_goals first|(exfalso;omega)|exact ⟨.inr rfl,rfl,_,rfl,by rw [decide_eq_false h];rfl,rfl⟩
theorem mxN_eq (a b:Nat):(if true=true then if (b:Int) > a then (b:Int) else a else if (b:Int)<a then (b:Int) else a)=((max a b:Nat):Int):=by
 rw [if_pos rfl];split <;> omega
theorem w50 (hft:M.FT=FT) (l:List Card) (hl:l.length<1000) (hL:∀ c∈l,okC c):Run M 50 [.vs (cardsC l) l.length cap] [] ⟨.int .i64 (roundsN l),[],[]⟩:=by
 refine run_of_W (by rw [hft];exact ft50) (by simp) ?_
 unfold b50
 simp only [enter]
 repeat' first|apply W.seq|apply SQn|apply W.region|apply WO.nil|apply W.block|(apply WO.pp;rfl;rfl)
 refine W.loopI l.length (fun i s=>∃ m:Nat,roundsN l=roundsF m (l.drop i)∧m<1000∧∃ lo wr,s=⟨⟨[.vs (cardsC l) l.length cap,.int .i64 0,.int .i64 m,.int .i64 i],lo,[],[]⟩,wr⟩) (fun i s hi ⟨m,he,hm,lo,wr,hs⟩=>?_) (fun s ⟨m,he,hm,lo,wr,hs⟩=>?_) (Nat.zero_le _) ⟨0,by rw [List.drop_zero,roundsF_eq];omega,by omega,_,_,rfl⟩
 · subst hs
   have e:=roundsF_drop (m:=m) hi
   rw [show l[i]! = l[((i:Int)).toNat]! from rfl] at e
   have ok:=(card_get hL hi).2.2.1
   rw [show l[i]! = l[((i:Int)).toNat]! from rfl] at ok
   unfold b50_0
   repeat' first|apply W.seq|apply SQn|apply W.region|apply WO.nil|apply W.block|apply W.skip|apply BQn|(apply W.condT;rfl)|(apply WO.lss;rfl;rfl;all_goals first|(intro _;exfalso;omega)|intro _)|(apply WO.add;rfl;rfl;omega)|(apply WO.iav;rfl;rfl;omega)|(apply WO.ldf;rfl;exact fun _=>rfl;(first|omega|(simp only [List.length_set];omega)|(simp;omega));decide;rfl;case ia=>infer_instance)|(apply WO.pl;rfl;rfl)|(apply WO.pp;rfl;rfl)
   exact LIn ⟨_,he.trans e,by omega,_,_,by rw [← mxN_eq];rfl⟩
 · subst hs
   rw [List.drop_length,roundsF] at he
   unfold b50_0
   repeat' first|apply W.seq|apply SQn|apply W.region|apply WO.nil|apply W.ret|apply W.exit|apply SQe|apply BQe|apply LIe|(apply W.condF;rfl)|(apply WO.lss;rfl;rfl;all_goals first|(intro _;exfalso;omega)|intro _)|(apply WO.pl;rfl;rfl)|(apply WO.pp;rfl;rfl)
   exact ⟨.inr rfl,rfl,_,rfl,by rw [he];rfl,rfl⟩
theorem any_take {p:Card→Bool} {l:List Card} {i:Nat} (h:i<l.length):(l.take (i+1)).any p=((l.take i).any p || p l[i]!):=by
 rw [take_snoc' h,List.any_append,List.any_cons,List.any_nil,Bool.or_false]
theorem loop103_0 (V:AV) (l:List Card) (hl:l.length<1000) (n:Nat) (hn:n<1000000) (r h:Int) {Q:Ex→StW→Prop} (lo:List (Nat×AV)) (K:Heap) (wr:List Nat)
 (hQ:∀ lo wr,Q (.exit 2) ⟨⟨[V,.vs (cardsC l) l.length cap,.int .i64 r,.ptr 0 0,.int .i64 0,.int .i64 h,.int .i64 n,.bool (l.any (clearC n)),.int .i64 l.length],lo,K,[]⟩,wr⟩) :
 W M (.loop b103_0) ⟨⟨[V,.vs (cardsC l) l.length cap,.int .i64 r,.ptr 0 0,.int .i64 0,.int .i64 h,.int .i64 n,.bool false,.int .i64 0],lo,K,[]⟩,wr⟩ Q:=by
 refine W.loopI l.length (fun i s=>∃ lo wr,s=⟨⟨[V,.vs (cardsC l) l.length cap,.int .i64 r,.ptr 0 0,.int .i64 0,.int .i64 h,.int .i64 n,.bool ((l.take i).any (clearC n)),.int .i64 i],lo,K,[]⟩,wr⟩) (fun i s hi ⟨lo,wr,hs⟩=>?_) (fun s ⟨lo,wr,hs⟩=>?_) (Nat.zero_le _) ⟨_,_,rfl⟩
 · subst hs
   have e:=any_take (p:=clearC n) hi
   rw [show l[i]! = l[((i:Int)).toNat]! from rfl] at e
   unfold b103_0
   cases hB:(l.take i).any (clearC n) with
   | true=>
    rw [hB,Bool.true_or] at e
    repeat' first|apply W.seq|apply SQn|apply W.region|apply WO.nil|apply W.block|apply W.skip|apply BQn|(apply W.condT;rfl)|(apply WO.sF;rfl)|(apply WO.sU;rfl)|(apply WO.lss;rfl;rfl;all_goals first|(intro _;exfalso;omega)|intro _)|(apply WO.pkT;rfl;rfl)|(apply WO.add;rfl;rfl;omega)|(apply WO.pl;rfl;rfl)|(apply WO.pp;rfl;rfl)
    all_goals exact LIn ⟨_,_,by rw [e];rfl⟩
   | false=>
    rw [hB,Bool.false_or] at e
    by_cases h1:n<(l[((i:Int)).toNat]!).off.length
    · by_cases h2:(l[((i:Int)).toNat]!).off[((n:Int)).toNat]! = [111]
      · rw [clearC,decide_eq_true h1,decide_eq_true (show (l[((i:Int)).toNat]!).off[n]! = sO from h2)] at e
        repeat' first|apply W.seq|apply SQn|apply W.region|apply WO.nil|apply W.block|apply W.skip|apply BQn|(apply W.condT;rfl)|(apply WO.gT;rfl)|(apply WO.gF;rfl)|(apply WO.lss;rfl;rfl;all_goals first|(intro _;exfalso;omega)|intro _)|(apply WO.pkT;rfl;rfl)|(apply WO.pkF;rfl;rfl)|(apply WO.add;rfl;rfl;omega)|(apply WO.iav;rfl;rfl;omega)|(apply WO.lda;rfl;exact fun _=>rfl;(first|omega|(simp only [List.length_set];omega)|(simp;omega));decide;rfl;case ia=>infer_instance)|(apply WO.ldf;rfl;exact fun _=>rfl;(first|omega|(simp only [List.length_set];omega)|(simp;omega));decide;rfl;case ia=>infer_instance)|(apply WO.seql;rfl;rfl;all_goals first|(intro h;exact absurd h (by decide))|(intro h;exact absurd rfl h)|(intro h;contradiction)|intro _)|(apply WO.pl;rfl;rfl)|(apply WO.pp;rfl;rfl)
        all_goals first|contradiction|(exfalso;omega)|exact LIn ⟨_,_,by rw [e];rfl⟩
      · rw [clearC,decide_eq_false (show ¬ (l[((i:Int)).toNat]!).off[n]! = sO from h2),Bool.and_false] at e
        repeat' first|apply W.seq|apply SQn|apply W.region|apply WO.nil|apply W.block|apply W.skip|apply BQn|(apply W.condT;rfl)|(apply WO.gT;rfl)|(apply WO.gF;rfl)|(apply WO.lss;rfl;rfl;all_goals first|(intro _;exfalso;omega)|intro _)|(apply WO.pkT;rfl;rfl)|(apply WO.pkF;rfl;rfl)|(apply WO.add;rfl;rfl;omega)|(apply WO.iav;rfl;rfl;omega)|(apply WO.lda;rfl;exact fun _=>rfl;(first|omega|(simp only [List.length_set];omega)|(simp;omega));decide;rfl;case ia=>infer_instance)|(apply WO.ldf;rfl;exact fun _=>rfl;(first|omega|(simp only [List.length_set];omega)|(simp;omega));decide;rfl;case ia=>infer_instance)|(apply WO.seql;rfl;rfl;all_goals first|(intro h;exact absurd h (by decide))|(intro h;exact absurd rfl h)|(intro h;contradiction)|intro _)|(apply WO.pl;rfl;rfl)|(apply WO.pp;rfl;rfl)
        all_goals first|contradiction|(exfalso;omega)|exact LIn ⟨_,_,by rw [e];rfl⟩
    · rw [clearC,decide_eq_false h1,Bool.false_and] at e
      repeat' first|apply W.seq|apply SQn|apply W.region|apply WO.nil|apply W.block|apply W.skip|apply BQn|(apply W.condT;rfl)|(apply WO.gF;rfl)|(apply WO.sT;rfl)|(apply WO.lss;rfl;rfl;all_goals first|(intro _;exfalso;omega)|intro _)|(apply WO.pkF;rfl;rfl)|(apply WO.add;rfl;rfl;omega)|(apply WO.iav;rfl;rfl;omega)|(apply WO.ldf;rfl;exact fun _=>rfl;(first|omega|(simp only [List.length_set];omega)|(simp;omega));decide;rfl;case ia=>infer_instance)|(apply WO.pl;rfl;rfl)|(apply WO.pp;rfl;rfl)
      all_goals first|contradiction|(exfalso;omega)|exact LIn ⟨_,_,by rw [e];rfl⟩
 · subst hs
   rw [List.take_length]
   unfold b103_0
   repeat' first|apply W.seq|apply SQn|apply W.region|apply WO.nil|apply W.exit|apply SQe|apply LIe|(apply W.condF;rfl)|(apply WO.lss;rfl;rfl;all_goals first|(intro _;exfalso;omega)|intro _)|(apply WO.pl;rfl;rfl)
   exact hQ _ _
theorem mxI_eq (a b:Int):(if true=true then if b > a then b else a else if b<a then b else a)=max a b:=by
 rw [if_pos rfl];split <;> omega
set_option maxHeartbeats 1000000 in
theorem w103 (hft:M.FT=FT) (c99:∀ (c:Card) h,okC c→M.ext 99 [.agg (cardC c)] h=some ⟨.int .i64 (bestI c),h,[]⟩) (names:List Str) (hs:List Int) (step:Int) (l:List Card) (r:Nat) (hl:l.length<1000) (hL:∀ c∈l,okC c) (hr:r<1000)
 (c98:∀ h,M.ext 98 [.vs (cardsC l) l.length cap] h=some ⟨.vs (ints (firstsL l)) (firstsL l).length none,h,[]⟩)
 (h0:firstsL l≠[]) (hb:bestI (first0 l)<hs.length) (h1:0≤step∧step≤1000) (h2:0≤hs[(bestI (first0 l)).toNat]! ∧ hs[(bestI (first0 l)).toNat]! ≤ 1000000) :
 Run M 103 [.agg (vertC names hs step c1 c2),.vs (cardsC l) l.length cap,.int .i64 r] [] ⟨.int .i64 (offH hs step l r),[],[]⟩:=by
 obtain ⟨f1,f2,f3⟩:=first0_best h0
 have hfl:0<(firstsL l).length:=List.length_pos_iff.2 h0
 have ok0:okC (first0 l):=card_get hL (i:=((firstsL l)[0]!).toNat) (by omega)
 have q99:=fun h=>c99 (first0 l) h ok0
 have bd:=offH_le (l:=l) h1 h2
 refine run_of_W (by rw [hft];exact ft103) (by simp) ?_
 unfold b103
 simp only [enter]
 have f1':0≤(firstsL l)[Int.toNat 0]! := f1
 have f2':(firstsL l)[Int.toNat 0]! < l.length:=f2
 repeat' first|(apply WD.cl0;rfl;rfl;(first|(simp only [List.nil_append,List.cons_append];rfl)|rfl);first|exact c98 _|exact q99 _)|apply W.seq|apply SQn|apply W.region|apply WO.nil|apply W.block|apply W.draw|apply WD.nil|(apply WD.pure1;rfl)|(apply WD.load1;rfl;rfl;(first|(simp only [List.nil_append,List.cons_append];rfl)|rfl))|(apply WO.add;rfl;rfl;omega)|(apply WO.iav;rfl;rfl;omega)|(apply WO.lda;rfl;exact fun _=>rfl;(first|omega|(simp only [List.length_set];omega)|(simp;omega));decide;rfl;case ia=>infer_instance)|(apply WO.hlv;rfl;rfl;rfl)|(apply WO.hpv;rfl;rfl;rfl)|(apply WO.pl;rfl;rfl)|(apply WO.pp;rfl;rfl)
 refine W.loopI r (fun n s=>∃ a7 a8 lo K wr,s=⟨⟨[.agg (vertC names hs step c1 c2),.vs (cardsC l) l.length cap,.int .i64 r,.ptr 0 0,.int .i64 0,.int .i64 (offH hs step l n),.int .i64 n,a7,a8],lo,K,[]⟩,wr⟩∧K.at 0=some (.cells (vertC names hs step c1 c2) 27)) (fun n s hn ⟨a7,a8,lo,K,wr,hs',hK⟩=>?_) (fun s ⟨a7,a8,lo,K,wr,hs',hK⟩=>?_) (Nat.zero_le _) ⟨_,_,_,_,_,rfl,rfl⟩
 · subst hs'
   have b1:=bd n
   have eo:offH hs step l (n+1)=if l.any (clearC n)=true then offH hs step l n+step else max step (offH hs step l n-step):=rfl
   unfold b103_1
   repeat' first|apply W.seq|apply SQn|apply W.region|apply WO.nil|apply W.block|apply W.skip|(apply W.condT;rfl)|(apply WO.lss;rfl;rfl;all_goals first|(intro _;exfalso;omega)|intro _)|(apply WO.pl;rfl;rfl)|(apply WO.pp;rfl;rfl)
   refine loop103_0 (cap:=cap) _ l hl n (by omega) r (offH hs step l n) _ _ _ (fun lo wr=>?_)
   cases hA:l.any (clearC n) with
   | true=>
    rw [hA,if_pos rfl] at eo
    repeat' first|apply W.seq|apply SQn|apply W.region|apply WO.nil|apply BQn|apply BQe|(apply W.condT;rfl)|(apply WO.add;rfl;rfl;omega)|(apply WO.ldK;rfl;exact hK;rfl)|(apply WO.pl;rfl;rfl)|(apply WO.pp;rfl;rfl)
    exact LIn ⟨_,_,_,_,_,by rw [eo];rfl,hK⟩
   | false=>
    rw [hA,if_neg (by decide),← mxI_eq] at eo
    repeat' first|apply W.seq|apply SQn|apply W.region|apply WO.nil|apply BQn|apply BQe|(apply W.condF;rfl)|(apply WO.add;rfl;rfl;omega)|(apply WO.sub;rfl;rfl;omega)|(apply WO.ldK;rfl;exact hK;rfl)|(apply WO.pl;rfl;rfl)|(apply WO.pp;rfl;rfl)
    exact LIn ⟨_,_,_,_,_,by rw [eo];rfl,hK⟩
 · subst hs'
   unfold b103_1
   repeat' first|apply W.seq|apply SQn|apply W.region|apply WO.nil|apply W.ret|apply W.exit|apply SQe|apply BQe|apply LIe|(apply W.condF;rfl)|(apply WO.lss;rfl;rfl;all_goals first|(intro _;exfalso;omega)|intro _)|(apply WO.pl;rfl;rfl)|(apply WO.pp;rfl;rfl)
   exact ⟨.inr rfl,rfl,_,rfl,rfl,rfl⟩
theorem offHs_take {hs:List Int} {step:Int} {l:List Card} {n:Nat}:(List.range (n+1)).map (offH hs step l)=(List.range n).map (offH hs step l)++[offH hs step l n]:=by
 rw [List.range_succ,List.map_append];rfl
def offHs (hs:List Int) (step:Int) (l:List Card):List Int:=(List.range (roundsN l)).map (offH hs step l)
theorem rounds_lt {l:List Card} (hL:∀ c∈l,okC c):roundsN l<1000:=by
 induction l with
 | nil=>simp [roundsN]
 | cons c l ih=>
  have h1:=(hL c (by simp)).2.2.1
  have h2:=ih (fun x hx=>hL x (by simp [hx]))
  rw [roundsN];omega
theorem w53 (hft:M.FT=FT) (names:List Str) (hs:List Int) (step:Int) (l:List Card) (hL:∀ c∈l,okC c)
 (c50:∀ h,M.ext 50 [.vs (cardsC l) l.length cap] h=some ⟨.int .i64 (roundsN l),h,[]⟩) (c103:∀ (r:Nat) h,r<1000→M.ext 103 [.agg (vertC names hs step c1 c2),.vs (cardsC l) l.length cap,.int .i64 r] h=some ⟨.int .i64 (offH hs step l r),h,[]⟩) :
 ∃ v hh,FrN hh v (.vs (ints (offHs hs step l)) (offHs hs step l).length none)∧Run M 53 [.agg (vertC names hs step c1 c2),.vs (cardsC l) l.length cap] [] ⟨v,hh,[]⟩:=by
 have hR:=rounds_lt hL
 refine run_ofE (P:=fun v hh=>FrN hh v (.vs (ints (offHs hs step l)) (offHs hs step l).length none)) (by rw [hft];exact ft53) (by simp) ?_
 unfold b53
 simp only [enter]
 repeat' first|apply W.seq|apply SQn|apply W.region|apply WO.nil|apply W.block|(apply WO.hpv;rfl;rfl;rfl)|(apply WO.pp;rfl;rfl)
 refine W.loopI (roundsN l) (fun n s=>∃ o lo K wr,s=⟨⟨[.agg (vertC names hs step c1 c2),.vs (cardsC l) l.length cap,.ptr 0 0,.nilsl,o,.int .i64 n],lo,K,[]⟩,wr⟩∧OutE inC 1 3 K o ((List.range n).map (offH hs step l)) [0]∧K.at 0=some (.cells (vertC names hs step c1 c2) 27)) (fun n s hn ⟨o,lo,K,wr,hs',ho,hK⟩=>?_) (fun s ⟨o,lo,K,wr,hs',ho,hK⟩=>?_) (Nat.zero_le _) ⟨_,_,_,_,rfl,.ofNil,rfl⟩
 · subst hs'
   have hK0:=at_lt hK
   have e:=offHs_take (hs:=hs) (step:=step) (l:=l) (n:=n)
   have q103:=fun h=>c103 n h (by omega)
   unfold b53_0
   repeat' first|apply W.seq|apply SQn|apply W.region|apply WO.nil|apply W.block|apply W.skip|(apply W.condT;rfl)|(apply WO.lss;rfl;rfl;all_goals first|(intro _;exfalso;omega)|intro _)|(apply WO.cll;rfl;rfl;first|exact c50 _|exact q103 _)|(apply WO.ldK;rfl;exact hK;rfl)|(apply WO.hlv;rfl;rfl;rfl)|(apply WO.pl;rfl;rfl)
   refine OutE.app (f:=inC) (m:=[offH hs step l n]) (S:=[0]) (fun _=>rfl) (fun _=>rfl) (by decide) (ho.grow [_]) (fun x hx=>by rw [List.mem_singleton.1 hx];simp) rfl rfl (Sl.ofAt (f:=inC) (esz:=1) (l:=[offH hs step l n]) (e:=3) (fun _=>rfl) at_new rfl) (by rw [List.length_map,List.length_range];unfold roomLimit;simp;omega) (fun H w' o' ho' hk hlen=>?_)
   repeat' first|apply SQn|apply W.region|apply WO.nil|apply BQn|(apply WO.add;rfl;rfl;omega)|(apply WO.pl;rfl;rfl)|(apply WO.pp;rfl;rfl)
   exact LIn ⟨_,_,_,_,rfl,by rw [e];exact ho',hk _ _ (by simp) (at_old hK)⟩
 · subst hs'
   unfold b53_0
   repeat' first|apply W.seq|apply SQn|apply W.region|apply WO.nil|apply W.ret|apply W.exit|apply SQe|apply BQe|apply LIe|(apply W.condF;rfl)|(apply WO.lss;rfl;rfl;all_goals first|(intro _;exfalso;omega)|intro _)|(apply WO.cll;rfl;rfl;first|exact c50 _)|(apply WO.pl;rfl;rfl)|(apply WO.pp;rfl;rfl)
   exact ⟨.inr rfl,rfl,_,rfl,ho.finN (fun _=>rfl) (fun _=>rfl) (fun _=>rfl)⟩
end Go.Ab.Ch6

/-
  Own work: chapter 6: cards, by the program: ends of texts, failures, numbers in lists.
-/
namespace Go.Ab.Ch6
open Go.Ab.Sort
variable {M:Mach} {cap c1 c2:Option Nat}
def endB (b:UInt8) (s:Str):Bool:=decide (s.getLast? = some b)
theorem endB_last {s:Str} {b:UInt8} (hb:b≠0):endB b s=decide (lastB s=b.toNat):=by
 rcases List.eq_nil_or_concat s with rfl|⟨t,c,rfl⟩
 · have:¬ ((0:Nat)=b.toNat):=fun h=>hb (by
    have:=UInt8.toNat_inj.1 (show b.toNat=(0:UInt8).toNat by rw [← h];rfl)
    exact this)
   simp [endB,lastB,this]
 · have hl:lastB (t++[c])=c.toNat:=by
    rw [lastB,if_neg (by simp)]
    rw [show (t++[c]).length-1=t.length by simp,List.getElem!_eq_getElem?_getD,List.getElem?_append_right (Nat.le_refl _),Nat.sub_self]
    rfl
   rw [List.concat_eq_append,hl,endB]
   simp only [List.getLast?_append,List.getLast?_singleton,Option.some_or,Option.some.injEq]
   rw [Bool.eq_iff_iff,decide_eq_true_eq,decide_eq_true_eq]
   exact UInt8.toNat_inj.symm
theorem w191 (hft:M.FT=FT) (s:Str) (b:UInt8) (hl:s.length<1000000):Run M 191 [.str s,.str [b]] [] ⟨.bool (endB b s),[],[]⟩:=by
 refine run_of_W (by rw [hft];exact ft191) (by simp) ?_
 have hn1:([b]:Str).length=1:=rfl
 rcases List.eq_nil_or_concat s with rfl|⟨t,c,e⟩
 · have h0:([]:Str).length=0:=rfl
   unfold b191
   simp only [enter]
   repeat' first|apply W.seq|apply SQn|apply W.region|apply WO.nil|apply W.ret|(apply WO.sT;rfl)|(apply WO.geq;rfl;rfl;all_goals first|(intro _;exfalso;omega)|intro _)|(apply WO.pkF;rfl;rfl)|(apply WO.pl;rfl;rfl)|(apply WO.pp;rfl;rfl)
   exact ⟨.inr rfl,rfl,_,rfl,rfl,rfl⟩
 · rw [List.concat_eq_append] at e
   subst e
   have hcl:(t++[c]).length=t.length+1:=by simp
   have hd:(t++[c]).drop ((((t++[c]).length:Int)-(([b]:Str).length:Int)).toNat)=[c]:=by
    rw [show ((((t++[c]).length:Int)-(([b]:Str).length:Int)).toNat)=t.length by omega];simp
   have he:endB b (t++[c])=decide (c=b):=by simp [endB]
   rw [he]
   unfold b191
   simp only [enter]
   by_cases hc:c=b
   · subst hc
     rw [decide_eq_true rfl]
     repeat' first|(apply WO.sse;rfl;rfl;omega;exact hd)|(apply WO.seql;rfl;rfl;intro _;rotate_left;(intro h;exact absurd rfl h))|apply W.seq|apply SQn|apply W.region|apply WO.nil|apply W.ret|(apply WO.gT;rfl)|(apply WO.geq;rfl;rfl;all_goals first|(intro _;exfalso;omega)|intro _)|(apply WO.pkT;rfl;rfl)|(apply WO.sub;rfl;rfl;omega)|(apply WO.pl;rfl;rfl)|(apply WO.pp;rfl;rfl)
     exact ⟨.inr rfl,rfl,_,rfl,rfl,rfl⟩
   · rw [decide_eq_false hc]
     repeat' first|(apply WO.sse;rfl;rfl;omega;exact hd)|(apply WO.seql;rfl;rfl;(intro h;exact absurd (List.cons.inj h).1 hc);intro _)|apply W.seq|apply SQn|apply W.region|apply WO.nil|apply W.ret|(apply WO.gT;rfl)|(apply WO.geq;rfl;rfl;all_goals first|(intro _;exfalso;omega)|intro _)|(apply WO.pkT;rfl;rfl)|(apply WO.sub;rfl;rfl;omega)|(apply WO.pl;rfl;rfl)|(apply WO.pp;rfl;rfl)
     exact ⟨.inr rfl,rfl,_,rfl,rfl,rfl⟩
theorem w137 (hft:M.FT=FT) (s:Str) (b:UInt8) (c191:∀ h,M.ext 191 [.str s,.str [b]] h=some ⟨.bool (endB b s),h,[]⟩):Run M 137 [.str s,.str [b]] [] ⟨.bool (endB b s),[],[]⟩:=by
 refine run_of_W (by rw [hft];exact ft137) (by simp) ?_
 unfold b137
 simp only [enter]
 cases h:endB b s <;> rw [h] at c191 <;> skip
 all_goals
  repeat' first|apply W.seq|apply SQn|apply W.region|apply WO.nil|apply W.ret|(apply WO.cll;rfl;rfl;first|exact c191 _)|(apply WO.pl;rfl;rfl)|(apply WO.pp;rfl;rfl)
  exact ⟨.inr rfl,rfl,_,rfl,rfl,rfl⟩
def doneS (s:Str):Bool:=endB 111 s || endB 45 s
theorem w156 (hft:M.FT=FT) (s:Str) (c137:∀ (b:UInt8) h,M.ext 137 [.str s,.str [b]] h=some ⟨.bool (endB b s),h,[]⟩):Run M 156 [.str s] [] ⟨.bool (doneS s),[],[]⟩:=by
 have q1:=c137 111
 have q2:=c137 45
 refine run_of_W (by rw [hft];exact ft156) (by simp) ?_
 unfold b156
 simp only [enter]
 rw [doneS]
 cases h:endB 111 s <;> rw [h] at q1 <;> cases h2:endB 45 s <;> rw [h2] at q2 <;> skip
 all_goals
  repeat' first|apply W.seq|apply SQn|apply W.region|apply WO.nil|apply W.ret|(apply WO.gF;rfl)|(apply WO.sF;rfl)|(apply WO.pkT;rfl;rfl)|(apply WO.pkF;rfl;rfl)|(apply WO.cll;rfl;rfl;first|exact q1 _|exact q2 _)|(apply WO.pl;rfl;rfl)|(apply WO.pp;rfl;rfl)
  exact ⟨.inr rfl,rfl,_,rfl,rfl,rfl⟩
def idxI (x:Int):List Int→Nat→Int
 | [],_=>-1
 | y::l,i=>if x=y then i else idxI x l (i+1)
theorem idxI_drop {x:Int} {l:List Int} {i:Nat} (h:i<l.length):idxI x (l.drop i) i=if x=l[i]! then (i:Int) else idxI x (l.drop (i+1)) (i+1):=by
 rw [List.drop_eq_getElem_cons h,getElem!_pos l i h,idxI]
theorem idxI_mem {x:Int}:∀ {l:List Int} {i:Nat},decide (0≤idxI x l i)=decide (x∈l)
 | [],i=>by simp [idxI]
 | y::l,i=>by
  rw [idxI]
  by_cases h:x=y
  · rw [if_pos h,decide_eq_true (by omega),decide_eq_true (by simp [h])]
  · rw [if_neg h,idxI_mem]
    rw [Bool.eq_iff_iff,decide_eq_true_eq,decide_eq_true_eq,List.mem_cons]
    exact ⟨.inr,fun hh=>hh.resolve_left h⟩
theorem w140 (hft:M.FT=FT) (l:List Int) (x:Int) (hl:l.length<1000000):Run M 140 [.vs (ints l) l.length cap,.int .i64 x] [] ⟨.int .i64 (idxI x l 0),[],[]⟩:=by
 refine run_of_W (by rw [hft];exact ft140) (by simp) ?_
 unfold b140
 simp only [enter]
 repeat' first|apply W.seq|apply SQn|apply W.region|apply WO.nil|apply W.block|(apply WO.pl;rfl;rfl)|(apply WO.pp;rfl;rfl)
 refine W.loopI l.length (fun i s=>idxI x l 0=idxI x (l.drop i) i∧∃ a3 lo wr,s=⟨⟨[.vs (ints l) l.length cap,.int .i64 x,.int .i64 0,a3,.int .i64 l.length,.int .i64 i],lo,[],[]⟩,wr⟩) (fun i s hi ⟨he,a3,lo,wr,hs⟩=>?_) (fun s ⟨he,a3,lo,wr,hs⟩=>?_) (Nat.zero_le _) ⟨rfl,_,_,_,rfl⟩
 · subst hs
   have e:=idxI_drop (x:=x) hi
   rw [show l[i]! = l[((i:Int)).toNat]! from rfl] at e
   unfold b140_0
   repeat' first|apply W.seq|apply SQn|apply W.region|apply WO.nil|apply W.block|apply W.ret|apply W.skip|apply SQr|apply BQn|apply BQr|apply LIr|(apply W.condT;rfl)|(apply W.condF;rfl)|(apply WO.lss;rfl;rfl;all_goals first|(intro _;exfalso;omega)|intro _)|(apply WO.eql;rfl;rfl;all_goals first|(intro _;exfalso;omega)|intro _)|(apply WO.add;rfl;rfl;omega)|(apply WO.iav;rfl;rfl;omega)|(apply WO.lda;rfl;exact fun _=>rfl;(first|omega|(simp only [List.length_set];omega)|(simp;omega));decide;rfl;case ia=>infer_instance)|(apply WO.pl;rfl;rfl)|(apply WO.pp;rfl;rfl)
   · rename_i h
     rw [if_pos h] at e
     exact ⟨.inr rfl,rfl,_,rfl,by rw [he,e];rfl,rfl⟩
   · rename_i h
     rw [if_neg h] at e
     exact LIn ⟨he.trans e,_,_,_,rfl⟩
 · subst hs
   rw [List.drop_length,idxI] at he
   unfold b140_0
   repeat' first|apply W.seq|apply SQn|apply W.region|apply WO.nil|apply W.ret|apply W.exit|apply SQe|apply BQe|apply LIe|(apply W.condF;rfl)|(apply WO.lss;rfl;rfl;all_goals first|(intro _;exfalso;omega)|intro _)|(apply WO.pp;rfl;rfl)
   exact ⟨.inr rfl,rfl,_,rfl,by rw [he];rfl,rfl⟩
theorem w92 (hft:M.FT=FT) (l:List Int) (x:Int) (c140:∀ h,M.ext 140 [.vs (ints l) l.length cap,.int .i64 x] h=some ⟨.int .i64 (idxI x l 0),h,[]⟩):Run M 92 [.vs (ints l) l.length cap,.int .i64 x] [] ⟨.bool (decide (x∈l)),[],[]⟩:=by
 rw [← idxI_mem (l:=l) (i:=0)]
 refine run_of_W (by rw [hft];exact ft92) (by simp) ?_
 unfold b92
 simp only [enter]
 by_cases h:0≤idxI x l 0
 · rw [decide_eq_true h]
   repeat' first|apply W.seq|apply SQn|apply W.region|apply WO.nil|apply W.ret|(apply WO.geq;rfl;rfl;all_goals first|(intro _;exfalso;omega)|intro _)|(apply WO.cll;rfl;rfl;first|exact c140 _)|(apply WO.pl;rfl;rfl)|(apply WO.pp;rfl;rfl)
   all_goals first|(exfalso;omega)|exact ⟨.inr rfl,rfl,_,rfl,rfl,rfl⟩
 · rw [decide_eq_false h]
   repeat' first|apply W.seq|apply SQn|apply W.region|apply WO.nil|apply W.ret|(apply WO.geq;rfl;rfl;all_goals first|(intro _;exfalso;omega)|intro _)|(apply WO.cll;rfl;rfl;first|exact c140 _)|(apply WO.pl;rfl;rfl)|(apply WO.pp;rfl;rfl)
   all_goals first|(exfalso;omega)|exact ⟨.inr rfl,rfl,_,rfl,rfl,rfl⟩
theorem w196 (hft:M.FT=FT) (s:Str) (n:Nat) (c232:∀ h,M.ext 232 [.str s,.int .u8 120] h=some ⟨.int .i64 n,h,[]⟩):Run M 196 [.str s,.str [120]] [] ⟨.int .i64 n,[],[]⟩:=by
 have h1:([120]:Str).length=1:=rfl
 refine run_of_W (by rw [hft];exact ft196) (by simp) ?_
 unfold b196
 simp only [enter]
 repeat' first|apply W.seq|apply SQn|apply W.region|apply WO.nil|apply W.ret|apply W.skip|apply SQr|(apply W.condT;rfl)|(apply W.condF;rfl)|(apply WO.eql;rfl;rfl;all_goals first|(intro _;exfalso;omega)|intro _)|(apply WO.cll;rfl;rfl;first|exact c232 _)|(apply WO.idx;rfl;rfl;omega)|(apply WO.pl;rfl;rfl)|(apply WO.pp;rfl;rfl)
 all_goals first|(exfalso;omega)|exact ⟨.inr rfl,rfl,_,rfl,rfl,rfl⟩
theorem w155 (hft:M.FT=FT) (s:Str) (n:Nat) (c196:∀ h,M.ext 196 [.str s,.str [120]] h=some ⟨.int .i64 n,h,[]⟩):Run M 155 [.str s] [] ⟨.int .i64 n,[],[]⟩:=by
 refine run_of_W (by rw [hft];exact ft155) (by simp) ?_
 unfold b155
 simp only [enter]
 repeat' first|apply W.seq|apply SQn|apply W.region|apply WO.nil|apply W.ret|(apply WO.cll;rfl;rfl;first|exact c196 _)|(apply WO.pl;rfl;rfl)|(apply WO.pp;rfl;rfl)
 exact ⟨.inr rfl,rfl,_,rfl,rfl,rfl⟩
end Go.Ab.Ch6

/-
  Own work: chapter 6: cards, by the program: texts of heights.
-/
namespace Go.Ab.Ch6
open Go.Ab.Sort
variable {M:Mach} {cap c1 c2:Option Nat}
def okS (n i:Nat) (c:Int):Bool:=decide (c=120) || (decide (i+1=n) && (decide (c=111) || decide (c=45)))
theorem okS_iff {n i:Nat} {c:Int}:okS n i c=true↔c=120∨(i+1=n∧(c=111∨c=45)):=by
 simp [okS]
theorem okS_no {n i:Nat} {c:Int} (h:¬ (c=120∨(i+1=n∧(c=111∨c=45)))):okS n i c=false:=by
 cases h':okS n i c
 · rfl
 · exact absurd (okS_iff.1 h') h
theorem shapB_ok {s:Str} {i:Nat} (h:i<s.length):shapB (s.drop i)=(okS s.length i (s[i]!).toNat && shapB (s.drop (i+1))):=by
 rw [shapB_drop h,okS]
 have e1:decide (((s[i]!).toNat:Int)=120)=decide ((s[i]!).toNat=120):=by rw [Bool.eq_iff_iff,decide_eq_true_eq,decide_eq_true_eq];omega
 have e2:decide (((s[i]!).toNat:Int)=111)=decide ((s[i]!).toNat=111):=by rw [Bool.eq_iff_iff,decide_eq_true_eq,decide_eq_true_eq];omega
 have e3:decide (((s[i]!).toNat:Int)=45)=decide ((s[i]!).toNat=45):=by rw [Bool.eq_iff_iff,decide_eq_true_eq,decide_eq_true_eq];omega
 rw [e1,e2,e3]
theorem loop153 (s:Str) (hl:s.length<4611686018427387904) {Q:Ex→StW→Prop}:∀ (r i:Nat) (a2 a3 a4 a6:AV) (lo:List (Nat×AV)) (wr:List Nat),i+r=s.length →
 (shapB (s.drop i)=true→∀ a2 a3 a4 a6 lo J wr,Q (.exit 0) ⟨⟨[.str s,.bool false,a2,a3,a4,.ptr 0 0,a6],lo,J,[]⟩,wr⟩) →
 (shapB (s.drop i)=false→∀ a2 a3 a4 a6 lo J wr,Q .ret ⟨⟨[.str s,.bool false,a2,a3,a4,.ptr 0 0,a6],lo,J,[]⟩,wr⟩) →
 W M (.loop b153_0) ⟨⟨[.str s,.bool false,a2,a3,a4,.ptr 0 0,a6],lo,[]++[some (.iter s i)],[]⟩,wr⟩ Q
 | 0,i,a2,a3,a4,a6,lo,wr,hi,h1,h2=>by
  obtain rfl:i=s.length:=by omega
  refine W.loop ?_
  unfold b153_0
  repeat' first|(apply WO.nxF;rfl;omega)|apply W.seq|apply SQn|apply W.region|apply WO.nil|apply W.exit|apply SQe|apply LQe|(apply W.condF;rfl)|(apply WO.pl;rfl;rfl)
  exact h1 (by simp [shapB]) _ _ _ _ _ _ _
 | r+1,i,a2,a3,a4,a6,lo,wr,hi,h1,h2=>by
  have e:=shapB_ok (s:=s) (i:=i) (by omega)
  have step:∀ (c:Nat) (w:Nat),Utf8.decode ⟨s.toArray⟩ i=(c,w)→(okS s.length i c=true→w=1∧shapB (s.drop i)=shapB (s.drop (i+1)))→(okS s.length i c=false→shapB (s.drop i)=false)→W M (.loop b153_0) ⟨⟨[.str s,.bool false,a2,a3,a4,.ptr 0 0,a6],lo,[]++[some (.iter s i)],[]⟩,wr⟩ Q:=by
   intro c w hd ht hf
   refine W.loop ?_
   unfold b153_0
   have go:∀ a2 a3 a4 a6 lo wr,okS s.length i c=true→LQ M b153_0 Q .normal ⟨⟨[.str s,.bool false,a2,a3,a4,.ptr 0 0,a6],lo,[]++[some (.iter s (i+w))],[]⟩,wr⟩:=fun a2 a3 a4 a6 lo wr h=>by
    obtain ⟨rfl,e1⟩:=ht h
    rw [e1] at h1 h2
    exact LQn (loop153 s hl r (i+1) _ _ _ _ _ _ (by omega) h1 h2)
   have stop:∀ a2 a3 a4 a6 lo J wr,okS s.length i c=false→Q .ret ⟨⟨[.str s,.bool false,a2,a3,a4,.ptr 0 0,a6],lo,J,[]⟩,wr⟩:=fun a2 a3 a4 a6 lo J wr h=>h2 (hf h) _ _ _ _ _ _ _
   repeat' first|(apply WO.nxT;rfl;omega;exact hd)|apply W.seq|apply SQn|apply W.region|apply WO.nil|apply W.block|apply W.ret|apply W.skip|apply BQn|apply BQr|apply LQr|(apply W.condT;rfl)|(apply W.condF;rfl)|(apply WO.gT;rfl)|(apply WO.gF;rfl)|(apply WO.sT;rfl)|(apply WO.sF;rfl)|(apply WO.sU;rfl)|(apply WO.eql;rfl;rfl;all_goals first|(intro _;exfalso;omega)|intro _)|(apply WO.neq;rfl;rfl;all_goals first|(intro _;exfalso;omega)|intro _)|(apply WO.pkT;rfl;rfl)|(apply WO.pkF;rfl;rfl)|(apply WO.sub;rfl;rfl;omega)|(apply WO.pl;rfl;rfl)|(apply WO.pp;rfl;rfl)
   all_goals first
    | (exfalso;omega)
    | exact go _ _ _ _ _ _ (okS_iff.2 (by omega))
    | exact stop _ _ _ _ _ _ _ (okS_no (by omega))
  by_cases hb:(s[i]!).toNat<128
  · exact step _ _ (dec_ascii (by omega) hb) (fun h=>⟨rfl,by rw [e,h,Bool.true_and]⟩) (fun h=>by rw [e,h,Bool.false_and])
  · obtain ⟨c,w,hd,hc⟩:=dec_other (s:=s) (i:=i) (by omega) hb
    refine step c w hd (fun h=>?_) (fun _=>?_)
    · rw [okS_no (by omega)] at h;cases h
    · rw [e,okS_no (by omega),Bool.false_and]
theorem w153 (hft:M.FT=FT) (s:Str) (hl:s.length<1000000):Run M 153 [.str s] [] ⟨.bool (shaped s),[],[]⟩:=by
 refine run_of_W (by rw [hft];exact ft153) (by simp) ?_
 unfold b153
 simp only [enter]
 repeat' first|apply W.seq|apply SQn|apply W.region|apply WO.nil|apply W.block|(apply WO.hpv;rfl;rfl;rfl)|(apply WO.pl;rfl;rfl)|(apply WO.pp;rfl;rfl)
 refine loop153 s (by omega) s.length 0 _ _ _ _ _ _ (by omega) (fun h a2 a3 a4 a6 lo J wr=>?_) (fun h a2 a3 a4 a6 lo J wr=>?_)
 · rw [List.drop_zero] at h
   by_cases h0:s=[]
   · subst h0
     repeat' first|apply W.seq|apply SQn|apply W.region|apply WO.nil|apply W.ret|apply BQe|(apply WO.sT;rfl)|(apply WO.pkF;rfl;rfl)|(apply WO.sneq;rfl;rfl;all_goals first|(intro h;exact absurd h (by decide))|(intro h;exact absurd rfl h)|(intro h;contradiction)|intro _)|(apply WO.pl;rfl;rfl)|(apply WO.pp;rfl;rfl)
     all_goals first|contradiction|exact ⟨.inr rfl,rfl,_,rfl,rfl,rfl⟩
   · have hp:0<s.length:=List.length_pos_iff.2 h0
     by_cases h3:s.length≤3
     · have e:shaped s=true:=by rw [shaped,h,decide_eq_true (by omega),decide_eq_true h3];rfl
       repeat' first|apply W.seq|apply SQn|apply W.region|apply WO.nil|apply W.ret|apply BQe|(apply WO.gT;rfl)|(apply WO.leq;rfl;rfl;all_goals first|(intro _;exfalso;omega)|intro _)|(apply WO.pkT;rfl;rfl)|(apply WO.sneq;rfl;rfl;all_goals first|(intro h;exact absurd h (by decide))|(intro h;exact absurd rfl h)|(intro h;contradiction)|intro _)|(apply WO.pl;rfl;rfl)|(apply WO.pp;rfl;rfl)
       all_goals first|contradiction|(exfalso;omega)|exact ⟨.inr rfl,rfl,_,rfl,congrArg AV.bool e.symm,rfl⟩
     · have e:shaped s=false:=by rw [shaped,decide_eq_false h3,Bool.and_false];rfl
       repeat' first|apply W.seq|apply SQn|apply W.region|apply WO.nil|apply W.ret|apply BQe|(apply WO.gT;rfl)|(apply WO.leq;rfl;rfl;all_goals first|(intro _;exfalso;omega)|intro _)|(apply WO.pkT;rfl;rfl)|(apply WO.sneq;rfl;rfl;all_goals first|(intro h;exact absurd h (by decide))|(intro h;exact absurd rfl h)|(intro h;contradiction)|intro _)|(apply WO.pl;rfl;rfl)|(apply WO.pp;rfl;rfl)
       all_goals first|contradiction|(exfalso;omega)|exact ⟨.inr rfl,rfl,_,rfl,congrArg AV.bool e.symm,rfl⟩
 · rw [List.drop_zero] at h
   repeat' first|apply SQr|apply BQr
   exact ⟨.inr rfl,rfl,_,rfl,congrArg AV.bool (by rw [shaped,h,Bool.and_false]),rfl⟩
def idxQ (p:Str→Bool):List Str→Nat→Int
 | [],_=>-1
 | x::l,i=>if p x then (i:Int) else idxQ p l (i+1)
theorem idxQ_drop {p:Str→Bool} {l:List Str} {i:Nat} (h:i<l.length):idxQ p (l.drop i) i=if p l[i]! then (i:Int) else idxQ p (l.drop (i+1)) (i+1):=by
 rw [List.drop_eq_getElem_cons h,getElem!_pos l i h,idxQ]
theorem idxQ_any {p:Str→Bool}:∀ (l:List Str) (i:Nat),decide (0≤idxQ p l i)=l.any p
 | [],i=>by simp [idxQ]
 | x::l,i=>by
  rw [idxQ,List.any_cons]
  cases p x
  · rw [if_neg (by decide),idxQ_any l (i+1),Bool.false_or]
  · rw [if_pos rfl,Bool.true_or,decide_eq_true (by omega)]
theorem w195 (hft:M.FT=FT) {g:FuncId} {p:Str→Bool} {l:List Str} (cg:∀ x∈l,∀ h,M.ext g [.str x] h=some ⟨.bool (p x),h,[]⟩) (hl:l.length<1000000):Run M 195 [.vs (strs l) l.length cap,.fn (.func g) [] []] [] ⟨.int .i64 (idxQ p l 0),[],[]⟩:=by
 refine run_of_W (by rw [hft];exact ft195) (by simp) ?_
 unfold b195
 simp only [enter]
 repeat' first|apply W.seq|apply SQn|apply W.region|apply WO.nil|apply W.block|(apply WO.pl;rfl;rfl)|(apply WO.pp;rfl;rfl)
 refine W.loopI l.length (fun i s=>idxQ p l 0=idxQ p (l.drop i) i∧∃ a3 lo wr,s=⟨⟨[.vs (strs l) l.length cap,.fn (.func g) [] [],.int .i64 0,a3,.int .i64 l.length,.int .i64 i],lo,[],[]⟩,wr⟩) (fun i s hi ⟨he,a3,lo,wr,hs⟩=>?_) (fun s ⟨he,a3,lo,wr,hs⟩=>?_) (Nat.zero_le _) ⟨rfl,_,_,_,rfl⟩
 · subst hs
   have e:=idxQ_drop (p:=p) hi
   rw [show l[i]! = l[((i:Int)).toNat]! from rfl] at e
   have q:=fun h=>cg l[((i:Int)).toNat]! (by rw [Int.toNat_natCast,getElem!_pos l i hi];exact List.getElem_mem hi) h
   unfold b195_0
   cases hp:p l[((i:Int)).toNat]! with
   | true=>
    rw [hp] at q e
    repeat' first|apply W.seq|apply SQn|apply W.region|apply WO.nil|apply W.block|apply W.ret|apply W.skip|apply SQr|apply BQr|apply LIr|(apply W.condT;rfl)|(apply WO.lss;rfl;rfl;all_goals first|(intro _;exfalso;omega)|intro _)|(apply WO.cll;rfl;rfl;first|exact q _)|(apply WO.iav;rfl;rfl;omega)|(apply WO.lda;rfl;exact fun _=>rfl;(first|omega|(simp only [List.length_set];omega)|(simp;omega));decide;rfl;case ia=>infer_instance)|(apply WO.pl;rfl;rfl)|(apply WO.pp;rfl;rfl)
    exact ⟨.inr rfl,rfl,_,rfl,by rw [he,e];rfl,rfl⟩
   | false=>
    rw [hp] at q e
    repeat' first|apply W.seq|apply SQn|apply W.region|apply WO.nil|apply W.block|apply W.skip|apply BQn|(apply W.condT;rfl)|(apply W.condF;rfl)|(apply WO.lss;rfl;rfl;all_goals first|(intro _;exfalso;omega)|intro _)|(apply WO.add;rfl;rfl;omega)|(apply WO.cll;rfl;rfl;first|exact q _)|(apply WO.iav;rfl;rfl;omega)|(apply WO.lda;rfl;exact fun _=>rfl;(first|omega|(simp only [List.length_set];omega)|(simp;omega));decide;rfl;case ia=>infer_instance)|(apply WO.pl;rfl;rfl)|(apply WO.pp;rfl;rfl)
    exact LIn ⟨he.trans e,_,_,_,rfl⟩
 · subst hs
   rw [List.drop_length,idxQ] at he
   unfold b195_0
   repeat' first|apply W.seq|apply SQn|apply W.region|apply WO.nil|apply W.ret|apply W.exit|apply SQe|apply BQe|apply LIe|(apply W.condF;rfl)|(apply WO.lss;rfl;rfl;all_goals first|(intro _;exfalso;omega)|intro _)|(apply WO.pp;rfl;rfl)
   exact ⟨.inr rfl,rfl,_,rfl,by rw [he];rfl,rfl⟩
theorem w151 (hft:M.FT=FT) {g:FuncId} {p:Str→Bool} (l:List Str) (c195:∀ h,M.ext 195 [.vs (strs l) l.length cap,.fn (.func g) [] []] h=some ⟨.int .i64 (idxQ p l 0),h,[]⟩):Run M 151 [.vs (strs l) l.length cap,.fn (.func g) [] []] [] ⟨.bool (l.any p),[],[]⟩:=by
 rw [← idxQ_any (p:=p) l 0]
 refine run_of_W (by rw [hft];exact ft151) (by simp) ?_
 unfold b151
 simp only [enter]
 by_cases h:0≤idxQ p l 0
 · rw [decide_eq_true h]
   repeat' first|apply W.seq|apply SQn|apply W.region|apply WO.nil|apply W.ret|(apply WO.geq;rfl;rfl;all_goals first|(intro _;exfalso;omega)|intro _)|(apply WO.cll;rfl;rfl;first|exact c195 _)|(apply WO.pl;rfl;rfl)|(apply WO.pp;rfl;rfl)
   all_goals first|(exfalso;omega)|exact ⟨.inr rfl,rfl,_,rfl,rfl,rfl⟩
 · rw [decide_eq_false h]
   repeat' first|apply W.seq|apply SQn|apply W.region|apply WO.nil|apply W.ret|(apply WO.geq;rfl;rfl;all_goals first|(intro _;exfalso;omega)|intro _)|(apply WO.cll;rfl;rfl;first|exact c195 _)|(apply WO.pl;rfl;rfl)|(apply WO.pp;rfl;rfl)
   all_goals first|(exfalso;omega)|exact ⟨.inr rfl,rfl,_,rfl,rfl,rfl⟩
theorem w152 (hft:M.FT=FT) (s:Str) (c153:∀ h,M.ext 153 [.str s] h=some ⟨.bool (shaped s),h,[]⟩):Run M 152 [.str s] [] ⟨.bool (!shaped s),[],[]⟩:=by
 refine run_of_W (by rw [hft];exact ft152) (by simp) ?_
 unfold b152
 simp only [enter]
 cases h:shaped s <;> rw [h] at c153 <;> skip
 all_goals
  repeat' first|apply W.seq|apply SQn|apply W.region|apply WO.nil|apply W.ret|(apply WO.cll;rfl;rfl;first|exact c153 _)|(apply WO.pl;rfl;rfl)|(apply WO.pp;rfl;rfl)
  exact ⟨.inr rfl,rfl,_,rfl,rfl,rfl⟩
theorem w154 (hft:M.FT=FT) (s:Str):Run M 154 [.str s] [] ⟨.bool (!offOk s),[],[]⟩:=by
 refine run_of_W (by rw [hft];exact ft154) (by simp) ?_
 unfold b154
 simp only [enter]
 by_cases h1:s=[111]
 · have e:offOk s=true:=by rw [offOk,decide_eq_true (p:=s=sO) h1];rfl
   repeat' first|apply W.seq|apply SQn|apply W.region|apply WO.nil|apply W.ret|(apply WO.sT;rfl)|(apply WO.pkF;rfl;rfl)|(apply WO.sneq;rfl;rfl;all_goals first|(intro h;exact absurd h (by decide))|(intro h;exact absurd rfl h)|(intro h;contradiction)|intro _)|(apply WO.pl;rfl;rfl)|(apply WO.pp;rfl;rfl)
   all_goals first|contradiction|exact ⟨.inr rfl,rfl,_,rfl,by rw [e];rfl,rfl⟩
 · by_cases h2:s=[120]
   · have e:offOk s=true:=by rw [offOk,decide_eq_true (p:=s=sX) h2,Bool.or_true]
     repeat' first|apply W.seq|apply SQn|apply W.region|apply WO.nil|apply W.ret|(apply WO.gT;rfl)|(apply WO.pkT;rfl;rfl)|(apply WO.sneq;rfl;rfl;all_goals first|(intro h;exact absurd h (by decide))|(intro h;exact absurd rfl h)|(intro h;contradiction)|intro _)|(apply WO.pl;rfl;rfl)|(apply WO.pp;rfl;rfl)
     all_goals first|contradiction|exact ⟨.inr rfl,rfl,_,rfl,by rw [e];rfl,rfl⟩
   · have e:offOk s=false:=by rw [offOk,decide_eq_false (p:=s=sO) h1,decide_eq_false (p:=s=sX) h2];rfl
     repeat' first|apply W.seq|apply SQn|apply W.region|apply WO.nil|apply W.ret|(apply WO.gT;rfl)|(apply WO.pkT;rfl;rfl)|(apply WO.sneq;rfl;rfl;all_goals first|(intro h;exact absurd h (by decide))|(intro h;exact absurd rfl h)|(intro h;contradiction)|intro _)|(apply WO.pl;rfl;rfl)|(apply WO.pp;rfl;rfl)
     all_goals first|contradiction|exact ⟨.inr rfl,rfl,_,rfl,by rw [e];rfl,rfl⟩
end Go.Ab.Ch6

/-
  Own work: chapter 6: cards, by the program: the form of a card.
-/
namespace Go.Ab.Ch6
open Go.Ab.Sort
variable {M:Mach} {cap c1 c2:Option Nat}
theorem shapB_at {s:Str} (h:shapB s=true):∀ i,i≤s.length→shapB (s.drop i)=true
 | 0,_=>by rw [List.drop_zero];exact h
 | i+1,hi=>by
  have h1:=shapB_at h i (by omega)
  rw [shapB_ok (by omega),Bool.and_eq_true] at h1
  exact h1.2
theorem shaped_last {s:Str} (h:shaped s=true):lastB s=120∨lastB s=111∨lastB s=45:=by
 rw [shaped,Bool.and_eq_true,Bool.and_eq_true,decide_eq_true_eq,decide_eq_true_eq] at h
 have h1:=shapB_at h.2 (s.length-1) (by omega)
 rw [shapB_ok (by omega),Bool.and_eq_true,okS_iff] at h1
 rw [lastB,if_neg (by omega)]
 omega
theorem doneS_shaped {s:Str} (h:shaped s=true):doneS s=decide (lastB s≠120):=by
 have h1:=shaped_last h
 rw [doneS,endB_last (by decide),endB_last (by decide)]
 rw [Bool.eq_iff_iff,Bool.or_eq_true,decide_eq_true_eq,decide_eq_true_eq,decide_eq_true_eq]
 show lastB s=111∨lastB s=45↔lastB s≠120
 omega
theorem any_not {p:Str→Bool}:∀ l:List Str,l.any (fun s=>!p s) = !l.all p
 | []=>rfl
 | x::l=>by rw [List.any_cons,List.all_cons,any_not l,Bool.not_and]
structure CFm (M:Mach):Prop extends CF M where
 c67:∀ (s:Str) h,s.length<1000000→M.ext 67 [.str s] h=some ⟨.bool (isName s),h,[]⟩
 cA:∀ (l:List Str) cap h,l.length<1000→(∀ s∈l,s.length<1000)→M.ext 151 [.vs (strs l) l.length cap,.fn (.func 152) [] []] h=some ⟨.bool (!l.all shaped),h,[]⟩
 cB:∀ (l:List Str) cap h,l.length<1000→(∀ s∈l,s.length<1000)→M.ext 151 [.vs (strs l) l.length cap,.fn (.func 154) [] []] h=some ⟨.bool (!l.all offOk),h,[]⟩
 c155:∀ (s:Str) h,s.length<1000000→M.ext 155 [.str s] h=some ⟨.int .i64 (failN s),h,[]⟩
 c156:∀ (s:Str) h,s.length<1000000→M.ext 156 [.str s] h=some ⟨.bool (doneS s),h,[]⟩
 c137:∀ (s:Str) (b:UInt8) h,s.length<1000000→M.ext 137 [.str s,.str [b]] h=some ⟨.bool (endB b s),h,[]⟩
theorem formE_pre (c:Card):formE c=if firstNZ [if isName c.who=false then 8 else 0,if 24<c.hs.length∨24<c.off.length then 5 else 0,if c.hs.all shaped=false∨c.off.all offOk=false then 1 else 0]≠0 then firstNZ [if isName c.who=false then 8 else 0,if 24<c.hs.length∨24<c.off.length then 5 else 0,if c.hs.all shaped=false∨c.off.all offOk=false then 1 else 0] else stateE 0 c.hs:=by
 rw [first3,formE]
 by_cases h1:isName c.who=false
 · simp [h1]
 · rw [if_neg h1,if_neg h1]
   by_cases h2:24<c.hs.length∨24<c.off.length
   · simp [h2]
   · rw [if_neg h2,if_neg h2]
     by_cases h3:c.hs.all shaped=false
     · simp [h3]
     · rw [if_neg h3]
       by_cases h4:c.off.all offOk=false
       · simp [h4]
       · rw [if_neg h4,if_neg (by simp [h3,h4])]
set_option maxHeartbeats 2000000 in
theorem w97 (C:CFm M) (c:Card) (ok:okC c):Run M 97 [.agg (cardC c)] [] ⟨.int .i64 (formE c),[],[]⟩:=by
 have q67:=fun h=>C.c67 c.who h (by have:=ok.1;omega)
 have qA:=fun h=>C.cA c.hs none h ok.2.1 ok.2.2.2.1
 have qB:=fun h=>C.cB c.off none h ok.2.2.1 ok.2.2.2.2
 have q64:=C.c64
 have q61:=fun a b d=>C.q3 [some (.cells (cardC c) 124)] a b d
 have e0:=formE_pre c
 refine run_of_W (by rw [C.ft];exact ft97) (by simp) ?_
 unfold b97
 simp only [enter]
 have state:c.hs.all shaped=true→∀ a4 a6 a7 lo (K:Heap) wr,K.at 0=some (.cells (cardC c) 124)→W M (.loop b97_0) ⟨⟨[.agg (cardC c),.ptr 0 0,.int .i64 0,.bool false,a4,.int .i64 0,a6,a7,.vs (strs c.hs) c.hs.length none,.int .i64 c.hs.length,.int .i64 0],lo,K,[]⟩,wr⟩
  (fun e s=>(e = .exit 0∧stateE 0 c.hs=0∧s.s.dfs=[]∧∃ a4 a5 a6 a7 a8 a9 aA,s.s.pe=[.agg (cardC c),.ptr 0 0,.int .i64 0,.bool false,a4,a5,a6,a7,a8,a9,aA])∨(e = .ret∧s.s.dfs=[]∧s.s.pe[2]? = some (.int .i64 (stateE 0 c.hs)))):=fun hs a4 a6 a7 lo K wr hK=>by
  refine W.loopI c.hs.length (fun i s=>∃ n:Nat,stateE 0 c.hs=stateE n (c.hs.drop i)∧n≤3∧∃ a6 a7 lo K wr,s=⟨⟨[.agg (cardC c),.ptr 0 0,.int .i64 0,.bool false,a4,.int .i64 n,a6,a7,.vs (strs c.hs) c.hs.length none,.int .i64 c.hs.length,.int .i64 i],lo,K,[]⟩,wr⟩∧K.at 0=some (.cells (cardC c) 124)) (fun i s hi ⟨n,he,hn,a6,a7,lo,K,wr,hs',hK⟩=>?_) (fun s ⟨n,he,hn,a6,a7,lo,K,wr,hs',hK⟩=>?_) (Nat.zero_le _) ⟨0,rfl,by omega,_,_,_,_,_,rfl,hK⟩
  · subst hs'
    have hcl:=ok.2.1
    have e:=stateE_drop (n:=n) hi
    rw [show c.hs[i]! = c.hs[((i:Int)).toNat]! from rfl] at e
    have hm:c.hs[((i:Int)).toNat]! ∈ c.hs:=by rw [Int.toNat_natCast,getElem!_pos c.hs i hi];exact List.getElem_mem hi
    have hsl:=ok.2.2.2.1 _ hm
    have hsh:shaped c.hs[((i:Int)).toNat]! = true:=List.all_eq_true.1 hs _ hm
    have q155:=fun h=>C.c155 c.hs[((i:Int)).toNat]! h (by omega)
    have q156:=fun h=>C.c156 c.hs[((i:Int)).toNat]! h (by omega)
    have q137:=fun h=>C.c137 c.hs[((i:Int)).toNat]! 111 h (by omega)
    have hf:=failN_le c.hs[((i:Int)).toNat]!
    rw [doneS_shaped hsh] at q156
    rw [endB_last (by decide)] at q137
    have hl:=shaped_last hsh
    generalize failN c.hs[((i:Int)).toNat]! = f at *
    generalize lastB c.hs[((i:Int)).toNat]! = b at *
    unfold b97_0
    rcases hl with rfl|rfl|rfl
    all_goals
     repeat' first|apply W.seq|apply SQn|apply W.region|apply WO.nil|apply W.block|apply W.ret|apply W.skip|apply SQr|apply BQn|apply BQr|apply LIr|(apply W.condT;rfl)|(apply W.condF;rfl)|(apply WO.gT;rfl)|(apply WO.gF;rfl)|(apply WO.sT;rfl)|(apply WO.sF;rfl)|(apply WO.sU;rfl)|(apply WO.lss;rfl;rfl;all_goals first|(intro _;exfalso;omega)|intro _)|(apply WO.gtr;rfl;rfl;all_goals first|(intro _;exfalso;omega)|intro _)|(apply WO.eql;rfl;rfl;all_goals first|(intro _;exfalso;omega)|intro _)|(apply WO.pkT;rfl;rfl)|(apply WO.pkF;rfl;rfl)|(apply WO.add;rfl;rfl;omega)|(apply WO.sub;rfl;rfl;omega)|(apply WO.cll;rfl;rfl;first|exact q155 _|exact q156 _|exact q137 _)|(apply WO.ldK;rfl;exact hK;rfl)|(apply WO.iav;rfl;rfl;omega)|(apply WO.lda;rfl;exact fun _=>rfl;(first|omega|(simp only [List.length_set];omega)|(simp;omega));decide;rfl;case ia=>infer_instance)|(apply WO.pl;rfl;rfl)|(apply WO.pp;rfl;rfl)
     all_goals first
      | (exfalso;omega)
      | (rw [if_pos (by omega)] at e;exact .inr ⟨rfl,rfl,by rw [he,e];rfl⟩)
      | (rw [if_neg (by omega),if_pos (by omega)] at e;exact LIn ⟨0,he.trans e,by omega,_,_,_,_,_,rfl,hK⟩)
      | (rw [if_neg (by omega),if_neg (by omega)] at e;exact LIn ⟨n+f,he.trans e,by omega,_,_,_,_,_,rfl,hK⟩)
      | trace_state
  · subst hs'
    rw [List.drop_length] at he
    unfold b97_0
    repeat' first|apply W.seq|apply SQn|apply W.region|apply WO.nil|apply W.exit|apply SQe|apply LIe|(apply W.condF;rfl)|(apply WO.lss;rfl;rfl;all_goals first|(intro _;exfalso;omega)|intro _)
    exact .inl ⟨rfl,he,rfl,_,_,_,_,_,_,_,rfl⟩
 cases hN:isName c.who <;> rw [hN] at q67 e0 <;> by_cases h1:24<c.hs.length <;> by_cases h2:24<c.off.length <;> cases hA:c.hs.all shaped <;> rw [hA] at qA e0 <;> cases hB:c.off.all offOk <;> rw [hB] at qB e0 <;> skip
 all_goals
  simp only [h1,h2,first3,or_true,true_or,or_self,or_false,false_or,if_true,if_false,Bool.true_eq_false,ne_eq,not_true_eq_false,not_false_eq_true,Bool.false_eq_true,reduceCtorEq,Int.reduceEq] at e0
  rw [e0]
  repeat' first|(apply WO.cll;rfl;rfl;first|exact q67 _|exact qA _|exact qB _|exact q64 _ _ _|exact q61 _ _ _)|(apply WD.cl0;rfl;rfl;(first|(simp only [List.nil_append,List.cons_append];rfl)|rfl);first|exact q67 _|exact qA _|exact qB _|exact q64 _ _ _|exact q61 _ _ _)|(apply WO.ldK;rfl;rfl;rfl)|apply W.seq|apply SQn|apply W.region|apply WO.nil|apply W.block|apply W.ret|apply W.skip|apply SQr|apply W.draw|apply WD.nil|(apply WD.gF;rfl)|(apply WD.sF;rfl)|(apply WD.pure1;rfl)|(apply WD.load1;rfl;rfl;(first|(simp only [List.nil_append,List.cons_append];rfl)|rfl))|(apply WD.new1;rfl)|(apply W.condT;rfl)|(apply W.condF;rfl)|(apply WO.gF;rfl)|(apply WO.sF;rfl)|(apply WO.gtr;rfl;rfl;all_goals first|(intro _;exfalso;omega)|intro _)|(apply WO.neq;rfl;rfl;all_goals first|(intro _;exfalso;omega)|intro _)|(apply WO.pkT;rfl;rfl)|(apply WO.pkF;rfl;rfl)|(apply WO.hlv;rfl;rfl;rfl)|(apply WO.hpv;rfl;rfl;rfl)|(apply WO.pl;rfl;rfl)|(apply WO.pp;rfl;rfl)
  all_goals first
   | (rename_i h;exact absurd h (by decide))
   | exact ⟨.inr rfl,rfl,_,rfl,rfl,rfl⟩
   | (
      refine (state hA _ _ _ _ _ _ rfl).mono fun e s h=>?_
      rcases s with ⟨⟨pe,lo,hp,df⟩,wr⟩
      rcases h with ⟨rfl,hz,hd,a4,a5,a6,a7,a8,a9,aA,hp'⟩|⟨rfl,hd,hp'⟩
      · simp only at hd hp'
        subst hd
        subst hp'
        rw [hz]
        repeat' first|apply W.seq|apply SQn|apply W.region|apply WO.nil|apply W.ret|apply BQe|(apply WO.pp;rfl;rfl)
        exact ⟨.inr rfl,rfl,_,rfl,rfl,rfl⟩
      · simp only at hd hp'
        subst hd
        repeat' first|apply SQr|apply BQr
        exact ⟨.inr rfl,rfl,[.int .i64 (stateE 0 c.hs)],by simp only [resultsA,St.opd,hp'],rfl,rfl⟩)
end Go.Ab.Ch6

/-
  Own work: chapter 6: cards, by the program: the notes of the jump-off, the score.
-/
namespace Go.Ab.Ch6
open Go.Ab.Sort
variable {M:Mach} {cap c1 c2:Option Nat}
def notedP (c:Card) (i:Nat):Int:=if c.off.length≤i then 0 else if c.off[i]! = sX then 1 else 2
theorem notedP_eq {c:Card} (h:c.off.all offOk=true) (i:Nat):notedP c i=notedI c i:=by
 unfold notedP notedI
 by_cases hl:c.off.length≤i
 · rw [if_pos hl,if_pos hl]
 · rw [if_neg hl,if_neg hl]
   have hm:c.off[i]! ∈ c.off:=by rw [getElem!_pos c.off i (by omega)];exact List.getElem_mem (by omega)
   have:=List.all_eq_true.1 h _ hm
   rw [offOk,Bool.or_eq_true,decide_eq_true_eq,decide_eq_true_eq] at this
   rcases this with h1|h1
   · rw [h1,if_neg (by decide),if_pos rfl]
   · rw [h1,if_pos rfl,if_neg (by decide)]
theorem w141 (hft:M.FT=FT) (c:Card) (i:Nat) (hi:i<1000000):Run M 141 [.agg (cardC c),.int .i64 i] [] ⟨.int .i64 (notedP c i),[],[]⟩:=by
 refine run_of_W (by rw [hft];exact ft141) (by simp) ?_
 unfold b141
 simp only [enter]
 by_cases h:c.off.length≤i
 · repeat' first|apply W.seq|apply SQn|apply W.region|apply WO.nil|apply W.block|apply W.ret|apply SQr|apply BQr|(apply W.condT;rfl)|(apply WO.geq;rfl;rfl;all_goals first|(intro _;exfalso;omega)|intro _)|(apply WO.hlv;rfl;rfl;rfl)|(apply WO.hpv;rfl;rfl;rfl)|(apply WO.pl;rfl;rfl)|(apply WO.pp;rfl;rfl)
   all_goals first|contradiction|(exfalso;omega)|exact ⟨.inr rfl,rfl,_,rfl,by rw [notedP,if_pos h];rfl,rfl⟩
 · by_cases hX:c.off[((i:Int)).toNat]! = [120]
   · repeat' first|apply W.seq|apply SQn|apply W.region|apply WO.nil|apply W.block|apply W.ret|apply SQr|apply BQr|(apply W.condT;rfl)|(apply W.condF;rfl)|(apply WO.geq;rfl;rfl;all_goals first|(intro _;exfalso;omega)|intro _)|(apply WO.iav;rfl;rfl;omega)|(apply WO.lda;rfl;exact fun _=>rfl;(first|omega|(simp only [List.length_set];omega)|(simp;omega));decide;rfl;case ia=>infer_instance)|(apply WO.seql;rfl;rfl;all_goals first|(intro h;exact absurd h (by decide))|(intro h;exact absurd rfl h)|(intro h;contradiction)|intro _)|(apply WO.hlv;rfl;rfl;rfl)|(apply WO.hpv;rfl;rfl;rfl)|(apply WO.pl;rfl;rfl)|(apply WO.pp;rfl;rfl)
     all_goals first|contradiction|(exfalso;omega)|exact ⟨.inr rfl,rfl,_,rfl,by rw [notedP,if_neg h,if_pos (show c.off[i]! = sX from hX)];rfl,rfl⟩
   · repeat' first|apply W.seq|apply SQn|apply W.region|apply WO.nil|apply W.block|apply W.ret|apply W.skip|apply BQn|(apply W.condF;rfl)|(apply WO.geq;rfl;rfl;all_goals first|(intro _;exfalso;omega)|intro _)|(apply WO.iav;rfl;rfl;omega)|(apply WO.lda;rfl;exact fun _=>rfl;(first|omega|(simp only [List.length_set];omega)|(simp;omega));decide;rfl;case ia=>infer_instance)|(apply WO.seql;rfl;rfl;all_goals first|(intro h;exact absurd h (by decide))|(intro h;exact absurd rfl h)|(intro h;contradiction)|intro _)|(apply WO.hlv;rfl;rfl;rfl)|(apply WO.hpv;rfl;rfl;rfl)|(apply WO.pl;rfl;rfl)|(apply WO.pp;rfl;rfl)
     all_goals first|contradiction|(exfalso;omega)|exact ⟨.inr rfl,rfl,_,rfl,by rw [notedP,if_neg h,if_neg (show ¬ c.off[i]! = sX from hX)];rfl,rfl⟩
def scoreL (c:Card):List Int:=[bestI c,-(failN c.hs[(bestI c).toNat]! : Int),-(totalN c:Int)]
theorem w138 (hft:M.FT=FT) (c90:∀ (c:Card) h,okC c→M.ext 90 [.agg (cardC c)] h=some ⟨.int .i64 (bestI c),h,[]⟩) (c155:∀ (s:Str) h,s.length<1000000→M.ext 155 [.str s] h=some ⟨.int .i64 (failN s),h,[]⟩)
 (c:Card) (ok:okC c) (pb:0≤bestI c):Run M 138 [.agg (cardC c)] [] ⟨.agg (ints (scoreL c)),[],[]⟩:=by
 obtain ⟨_,b2⟩:=bestI_lt c
 have hcl:=ok.2.1
 have q90:=fun h=>c90 c h ok
 have q155:=fun h=>c155 c.hs[(bestI c).toNat]! h (by have:=str_get ok.2.2.2.1 (i:=(bestI c).toNat) (by omega);omega)
 have hfl:=failN_le c.hs[(bestI c).toNat]!
 have hfs:=str_get ok.2.2.2.1 (i:=(bestI c).toNat) (by omega)
 obtain ⟨T,hT⟩:∃ T,T=c.hs.take (bestI c+1).toNat:=⟨_,rfl⟩
 have hTl:T.length=(bestI c+1).toNat:=by rw [hT,List.length_take];omega
 have hTo:∀ s∈T,s.length<1000:=fun s hs=>ok.2.2.2.1 s (List.mem_of_mem_take (hT ▸ hs))
 have eT:totalN c=sumF T:=by rw [totalN,hT]
 have hTb:sumF T≤1000*1000:=Nat.le_trans (sumF_le hTo) (Nat.mul_le_mul_right _ (by omega))
 refine run_of_W (by rw [hft];exact ft138) (by simp) ?_
 unfold b138
 simp only [enter]
 repeat' first|(apply WO.svbp (f:=stC);rfl;rfl;exact fun _=>rfl;omega)|apply W.seq|apply SQn|apply W.region|apply WO.nil|apply W.block|(apply WO.add;rfl;rfl;omega)|(apply WO.cll;rfl;rfl;first|exact q90 _)|(apply WO.ldK;rfl;(first|exact at_new|assumption|exact at_old at_new|exact at_old (at_old at_new)|exact at_old (at_old (at_old at_new))|exact at_put (by simp)|((repeat apply at_old);assumption));rfl)|(apply WO.hpv;rfl;rfl;rfl)|(apply WO.pl;rfl;rfl)|(apply WO.pp;rfl;rfl)
 rw [← hT]
 refine W.loopI T.length (fun i s=>∃ a5 lo K wr,s=⟨⟨[.agg (cardC c),.ptr 0 0,.ptr 1 0,.int .i64 (bestI c),.int .i64 (sumF (T.take i)),a5,.vs (strs T) T.length none,.int .i64 T.length,.int .i64 i],lo,[some (.cells (cardC c) 124),some (.cells [.int .i64 0,.int .i64 0,.int .i64 0] 223)],[]⟩,wr⟩∧K=([]:Heap)) (fun i s hi ⟨a5,lo,K,wr,hs,_⟩=>?_) (fun s ⟨a5,lo,K,wr,hs,_⟩=>?_) (Nat.zero_le _) ⟨_,_,[],_,rfl,rfl⟩
 · subst hs
   have e:=sumF_take hi
   rw [show T[i]! = T[((i:Int)).toNat]! from rfl] at e
   have hsl:=str_get hTo hi
   have q155':=fun h=>c155 T[((i:Int)).toNat]! h (by rw [Int.toNat_natCast];omega)
   have hf:=failN_le T[((i:Int)).toNat]!
   rw [show T[i]! = T[((i:Int)).toNat]! from rfl] at hsl
   have hb:sumF (T.take i)≤1000*1000:=Nat.le_trans (sumF_le (B:=1000) fun s hs=>hTo s (List.mem_of_mem_take hs)) (Nat.mul_le_mul_right _ (by rw [List.length_take];omega))
   unfold b138_0
   repeat' first|apply W.seq|apply SQn|apply W.region|apply WO.nil|apply W.block|apply W.skip|apply BQn|(apply W.condT;rfl)|(apply WO.lss;rfl;rfl;all_goals first|(intro _;exfalso;omega)|intro _)|(apply WO.add;rfl;rfl;omega)|(apply WO.cll;rfl;rfl;first|exact q155' _)|(apply WO.iav;rfl;rfl;omega)|(apply WO.lda;rfl;exact fun _=>rfl;(first|omega|(simp only [List.length_set];omega)|(simp;omega));decide;rfl;case ia=>infer_instance)|(apply WO.pl;rfl;rfl)|(apply WO.pp;rfl;rfl)
   exact LIn ⟨_,_,[],_,by rw [e];rfl,rfl⟩
 · subst hs
   rw [List.take_length]
   unfold b138_0
   repeat' first|apply W.seq|apply SQn|apply W.region|apply WO.nil|apply W.ret|apply W.exit|apply SQe|apply BQe|apply LIe|(apply W.condF;rfl)|(apply WO.lss;rfl;rfl;all_goals first|(intro _;exfalso;omega)|intro _)|(apply WO.cll;rfl;rfl;first|exact q155 _)|(apply WO.iav;rfl;rfl;omega)|(apply WO.lda;rfl;exact fun _=>rfl;(first|omega|(simp only [List.length_set];omega)|(simp;omega));decide;rfl;case ia=>infer_instance)|(apply WO.neg;rfl;omega)|(apply WO.hlv;rfl;rfl;rfl)|(apply WO.hnv;rfl;rfl;rfl)|(apply WO.pl;rfl;rfl)
   refine ⟨.inr rfl,rfl,_,rfl,?_,rfl⟩
   rw [scoreL,eT]
   rfl
end Go.Ab.Ch6

/-
  Own work: chapter 6: cards, by the program: who is better by heights.
-/
namespace Go.Ab.Ch6
open Go.Ab.Sort
variable {M:Mach} {cap c1 c2:Option Nat}
theorem cmp_score (a b:Card):cmpL (scoreL a) (scoreL b)=higherI a b:=by
 have cI:∀ x y:Int,cmpI x y=if x<y then -1 else if y<x then 1 else 0:=fun _ _=>rfl
 simp only [scoreL,cmpL,cI,higherI,cmpR]
 generalize bestI a=x at *
 generalize bestI b=y at *
 generalize failN a.hs[x.toNat]! = p at *
 generalize failN b.hs[y.toNat]! = q at *
 generalize totalN a=u at *
 generalize totalN b=v at *
 by_cases h:x=y <;> by_cases hp:p=q <;> simp only [h,hp,ne_eq,not_true_eq_false,not_false_eq_true,if_true,if_false] <;> (repeat' split) <;> omega
theorem w91 (hft:M.FT=FT) (c138:∀ (c:Card) h,okC c→0≤bestI c→M.ext 138 [.agg (cardC c)] h=some ⟨.agg (ints (scoreL c)),h,[]⟩) (c139:∀ (a b:List Int) v1 v2 h,Sl inC h v1 a→Sl inC h v2 b→a.length<1000000→M.ext 139 [v1,v2] h=some ⟨.int .i64 (cmpL a b),h,[]⟩)
 (a b:Card) (ha:okC a) (hb:okC b) (pa:0≤bestI a) (pb:0≤bestI b):Run M 91 [.agg (cardC a),.agg (cardC b)] [] ⟨.int .i64 (higherI a b),[],[]⟩:=by
 have q1:=fun h=>c138 a h ha pa
 have q2:=fun h=>c138 b h hb pb
 rw [← cmp_score]
 refine run_of_W (by rw [hft];exact ft91) (by simp) ?_
 unfold b91
 simp only [enter]
 obtain ⟨sa,hsa⟩:∃ sa,sa=scoreL a:=⟨_,rfl⟩
 obtain ⟨sb,hsb⟩:∃ sb,sb=scoreL b:=⟨_,rfl⟩
 have q3:M.ext 139 [.sl 2 0 3 1 (some 3),.sl 3 0 3 1 (some 3)] [some (.cells (cardC a) 124),some (.cells (cardC b) 124),some (.cells (ints (scoreL a)) 223),some (.cells (ints (scoreL b)) 223)]=some ⟨.int .i64 (cmpL (scoreL a) (scoreL b)),[some (.cells (cardC a) 124),some (.cells (cardC b) 124),some (.cells (ints (scoreL a)) 223),some (.cells (ints (scoreL b)) 223)],[]⟩:=
  c139 _ _ _ _ _ (Sl.ofAt (f:=inC) (esz:=1) (e:=223) (fun _=>rfl) rfl rfl) (Sl.ofAt (f:=inC) (esz:=1) (e:=223) (fun _=>rfl) rfl rfl) (by simp [scoreL])
 repeat' first|(apply WD.cl0;rfl;rfl;(first|(simp only [List.nil_append,List.cons_append];rfl)|rfl);first|exact q1 _|exact q2 _|exact q3)|(apply WD.slarr;rfl;rfl;simp [overwrite,scoreL,ints,arr];decide;rfl)|apply W.seq|apply SQn|apply W.region|apply WO.nil|apply W.ret|apply W.draw|apply WD.nil|(apply WD.pure1;rfl)|(apply WD.load1;rfl;rfl;(first|(simp only [List.nil_append,List.cons_append];rfl)|rfl))|(apply WD.store1;rfl;(first|(simp only [List.nil_append,List.cons_append];rfl)|rfl);(first|(simp only [List.nil_append,List.cons_append];rfl)|rfl))|(apply WD.new1;rfl)|(apply WO.ldK;rfl;(first|exact at_new|assumption|exact at_old at_new|exact at_old (at_old at_new)|exact at_old (at_old (at_old at_new))|exact at_put (by simp)|((repeat apply at_old);assumption));rfl)|(apply WO.hpv;rfl;rfl;rfl)|(apply WO.hnv;rfl;rfl;rfl)|(apply WO.pp;rfl;rfl)
 exact ⟨.inr rfl,rfl,_,rfl,rfl,rfl⟩
end Go.Ab.Ch6

/-
  Own work: chapter 6: cards, by the program: who is better by the jump-off.
-/
namespace Go.Ab.Ch6
open Go.Ab.Sort
variable {M:Mach} {cap c1 c2:Option Nat}
theorem cmpI_R (x y:Int):cmpI x y=cmpR x y:=by
 unfold cmpI cmpR
 (repeat' split) <;> omega
set_option maxHeartbeats 1000000 in
theorem w93 (hft:M.FT=FT) (c141:∀ (c:Card) (i:Nat) h,i<1000000→M.ext 141 [.agg (cardC c),.int .i64 i] h=some ⟨.int .i64 (notedP c i),h,[]⟩) (c142:∀ x y h,M.ext 142 [.int .i64 x,.int .i64 y] h=some ⟨.int .i64 (cmpI x y),h,[]⟩)
 (a b:Card) (ha:a.off.length<1000) (hb:b.off.length<1000) (oa:a.off.all offOk=true) (ob:b.off.all offOk=true):Run M 93 [.agg (cardC a),.agg (cardC b)] [] ⟨.int .i64 (offI a b),[],[]⟩:=by
 refine run_of_W (by rw [hft];exact ft93) (by simp) ?_
 unfold b93
 simp only [enter]
 repeat' first|apply W.seq|apply SQn|apply W.region|apply WO.nil|apply W.block|(apply WO.hlv;rfl;rfl;rfl)|(apply WO.hpv;rfl;rfl;rfl)|(apply WO.pl;rfl;rfl)|(apply WO.pp;rfl;rfl)
 obtain ⟨n,hn⟩:∃ n,n=max a.off.length b.off.length:=⟨_,rfl⟩
 rw [mxN_eq,← hn]
 refine W.loopI n (fun i s=>offI a b=offG a b (n-i) i∧∃ a6 a7 lo wr,s=⟨⟨[.agg (cardC a),.agg (cardC b),.ptr 0 0,.ptr 1 0,.int .i64 0,.fn (.func 141) [] [],a6,a7,.int .i64 n,.int .i64 i],lo,[some (.cells (cardC a) 124),some (.cells (cardC b) 124)],[]⟩,wr⟩) (fun i s hi ⟨he,a6,a7,lo,wr,hs⟩=>?_) (fun s ⟨he,a6,a7,lo,wr,hs⟩=>?_) (Nat.zero_le _) ⟨by rw [offI,hn,Nat.sub_zero],_,_,_,_,rfl⟩
 · subst hs
   have e:=offG_step (a:=a) (b:=b) hi
   have q1:=fun h=>c141 a i h (by omega)
   have q2:=fun h=>c141 b i h (by omega)
   rw [notedP_eq oa] at q1
   rw [notedP_eq ob] at q2
   have q142:=fun x y h=>c142 x y h
   simp only [cmpI_R] at q142
   generalize notedI a i=x at *
   generalize notedI b i=y at *
   unfold b93_0
   by_cases hxy:x=y
   · rw [if_neg (fun h=>h hxy)] at e
     have hc:cmpR x y=0:=by rw [cmpR,if_neg (by omega),if_neg (by omega)]
     repeat' first|(apply WD.cl0;rfl;rfl;(first|(simp only [List.nil_append,List.cons_append];rfl)|rfl);first|exact q1 _|exact q2 _|exact q142 _ _ _)|apply W.seq|apply SQn|apply W.region|apply WO.nil|apply W.block|apply W.skip|apply BQn|apply W.draw|apply WD.nil|(apply WD.pure1;rfl)|(apply WD.load1;rfl;rfl;(first|(simp only [List.nil_append,List.cons_append];rfl)|rfl))|(apply W.condT;rfl)|(apply W.condF;rfl)|(apply WO.lss;rfl;rfl;all_goals first|(intro _;exfalso;omega)|intro _)|(apply WO.neq;rfl;rfl;all_goals first|(intro _;exfalso;omega)|intro _)|(apply WO.add;rfl;rfl;omega)|(apply WO.hlv;rfl;rfl;rfl)|(apply WO.pl;rfl;rfl)|(apply WO.pp;rfl;rfl)
     all_goals first|contradiction|exact LIn ⟨he.trans e,_,_,_,_,rfl⟩
   · rw [if_pos hxy] at e
     have hc:cmpR x y≠0:=by unfold cmpR;(repeat' split) <;> omega
     repeat' first|(apply WD.cl0;rfl;rfl;(first|(simp only [List.nil_append,List.cons_append];rfl)|rfl);first|exact q1 _|exact q2 _|exact q142 _ _ _)|apply W.seq|apply SQn|apply W.region|apply WO.nil|apply W.block|apply W.ret|apply W.skip|apply SQr|apply BQr|apply LIr|apply W.draw|apply WD.nil|(apply WD.pure1;rfl)|(apply WD.load1;rfl;rfl;(first|(simp only [List.nil_append,List.cons_append];rfl)|rfl))|(apply W.condT;rfl)|(apply WO.lss;rfl;rfl;all_goals first|(intro _;exfalso;omega)|intro _)|(apply WO.neq;rfl;rfl;all_goals first|(intro _;exfalso;omega)|intro _)|(apply WO.hlv;rfl;rfl;rfl)|(apply WO.pl;rfl;rfl)|(apply WO.pp;rfl;rfl)
     all_goals first|contradiction|exact ⟨.inr rfl,rfl,_,rfl,by rw [he,e];rfl,rfl⟩
 · subst hs
   rw [Nat.sub_self,offG] at he
   unfold b93_0
   rcases a with ⟨aw,ah,ao,ar⟩
   rcases b with ⟨bw,bh,bo,br⟩
   cases ar <;> cases br <;> skip
   all_goals
    repeat' first|(apply WO.eqV;rfl;rfl;rfl)|apply W.seq|apply SQn|apply W.region|apply WO.nil|apply W.block|apply W.ret|apply W.exit|apply W.skip|apply SQr|apply SQe|apply BQn|apply BQr|apply BQe|apply LIe|(apply W.condT;rfl)|(apply W.condF;rfl)|(apply WO.lss;rfl;rfl;all_goals first|(intro _;exfalso;omega)|intro _)|(apply WO.hlv;rfl;rfl;rfl)|(apply WO.pl;rfl;rfl)|(apply WO.pp;rfl;rfl)
    all_goals first|contradiction|(exfalso;omega)|exact ⟨.inr rfl,rfl,_,rfl,by rw [he];rfl,rfl⟩
end Go.Ab.Ch6

/-
  Own work: chapter 6: the first ones by one pass through the cards, in plain words.
-/
namespace Go.Ab.Ch6
open Go.Ab.Sort
def keyC (c:Card):Int:=bestI c*100000000000000-failN c.hs[(bestI c).toNat]! * 10000000-totalN c
def smallC (c:Card):Prop:=failN c.hs[(bestI c).toNat]! < 10000000∧totalN c<10000000
theorem higher_key {a b:Card} (ha:smallC a) (hb:smallC b):(0<higherI a b↔keyC b<keyC a)∧(higherI a b<0↔keyC a<keyC b):=by
 obtain ⟨a1,a2⟩:=ha
 obtain ⟨b1,b2⟩:=hb
 unfold higherI keyC cmpR
 generalize failN a.hs[(bestI a).toNat]! = p at *
 generalize failN b.hs[(bestI b).toNat]! = q at *
 generalize totalN a=u at *
 generalize totalN b=v at *
 generalize bestI a=x at *
 generalize bestI b=y at *
 constructor <;> (repeat' split) <;> omega
def firstsK (l:List Card) (i:Nat):List Int:=(numsTo i).filter fun j=>isFirst (l.take i) l[j.toNat]!
theorem isFirst_iff {l:List Card} {c:Card} (hL:∀ k∈l,smallC k) (hc:smallC c):isFirst l c=true↔0≤bestI c∧∀ k∈l,0≤bestI k→keyC k≤keyC c:=by
 rw [isFirst,Bool.and_eq_true,decide_eq_true_eq,List.all_eq_true]
 constructor
 · rintro ⟨h1,h2⟩
   refine ⟨h1,fun k hk hb=>?_⟩
   have:=h2 k hk
   rw [worse,decide_eq_true hb,Bool.true_and,Bool.not_eq_true',decide_eq_false_iff_not,(higher_key (hL k hk) hc).1] at this
   omega
 · rintro ⟨h1,h2⟩
   refine ⟨h1,fun k hk=>?_⟩
   rw [worse,Bool.not_eq_true',Bool.and_eq_false_iff,decide_eq_false_iff_not,decide_eq_false_iff_not,(higher_key (hL k hk) hc).1]
   by_cases hb:0≤bestI k
   · exact .inr (by have:=h2 k hk hb;omega)
   · exact .inl hb
theorem max_card:∀ {l:List Card},(∃ k∈l,0≤bestI k)→∃ m∈l,0≤bestI m∧∀ k∈l,0≤bestI k→keyC k≤keyC m
 | [],⟨k,hk,_⟩=>by cases hk
 | c::l,⟨k,hk,hb⟩=>by
  by_cases he:∃ k∈l,0≤bestI k
  · obtain ⟨m,hm,bm,hM⟩:=max_card he
    by_cases hc:0≤bestI c∧keyC m<keyC c
    · refine ⟨c,by simp,hc.1,fun x hx bx=>?_⟩
      rcases List.mem_cons.1 hx with rfl|hx
      · exact Int.le_refl _
      · have:=hM x hx bx;omega
    · refine ⟨m,by simp [hm],bm,fun x hx bx=>?_⟩
      rcases List.mem_cons.1 hx with rfl|hx
      · omega
      · exact hM x hx bx
  · rcases List.mem_cons.1 hk with rfl|hk
    · refine ⟨k,by simp,hb,fun x hx bx=>?_⟩
      rcases List.mem_cons.1 hx with rfl|hx
      · exact Int.le_refl _
      · exact absurd ⟨x,hx,bx⟩ he
    · exact absurd ⟨k,hk,hb⟩ he
def stepF (l:List Card) (O:List Int) (i:Nat):List Int:=
 if bestI l[i]! < 0 then O else if O=[] then [(i:Int)] else if higherI l[i]! l[(O[0]!).toNat]! < 0 then O else if (0:Int)<higherI l[i]! l[(O[0]!).toNat]! then [(i:Int)] else O++[(i:Int)]
theorem stepF_eq {l:List Card} (hL:∀ c∈l,smallC c) {i:Nat} (hi:i<l.length):stepF l (firstsK l i) i=firstsK l (i+1):=by
 obtain ⟨c,hc⟩:∃ c,c=l[i]! := ⟨_,rfl⟩
 have hT:l.take (i+1)=l.take i++[c]:=by rw [hc,List.take_add_one,List.getElem?_eq_getElem hi,getElem!_pos l i hi];rfl
 have sc:smallC c:=by rw [hc];exact hL _ (by rw [getElem!_pos l i hi];exact List.getElem_mem hi)
 have sT:∀ k∈l.take i,smallC k:=fun k hk=>hL k (List.mem_of_mem_take hk)
 have sT':∀ k∈l.take i++[c],smallC k:=fun k hk=>by
  rcases List.mem_append.1 hk with h|h
  · exact sT k h
  · rw [List.mem_singleton.1 h];exact sc
 have get:∀ j∈numsTo i,l[j.toNat]! ∈ l.take i:=fun j hj=>by
  have:=numsTo_mem.1 hj
  rw [getElem!_pos l _ (by omega),List.mem_take_iff_getElem]
  exact ⟨j.toNat,by omega,rfl⟩
 have e1:firstsK l (i+1)=(numsTo i).filter (fun j=>isFirst (l.take i++[c]) l[j.toNat]!)++if isFirst (l.take i++[c]) c=true then [(i:Int)] else []:=by
  rw [firstsK,hT,numsTo_succ,List.filter_append,List.filter_cons,List.filter_nil,Int.toNat_natCast,← hc]
 have f1:∀ x,smallC x→(isFirst (l.take i++[c]) x=true↔isFirst (l.take i) x=true∧(0≤bestI c→keyC c≤keyC x)):=fun x sx=>by
  rw [isFirst_iff sT' sx,isFirst_iff sT sx]
  constructor
  · rintro ⟨h1,h2⟩
    exact ⟨⟨h1,fun k hk=>h2 k (by simp [hk])⟩,h2 c (by simp)⟩
  · rintro ⟨⟨h1,h2⟩,h3⟩
    refine ⟨h1,fun k hk hb=>?_⟩
    rcases List.mem_append.1 hk with h|h
    · exact h2 k h hb
    · rw [List.mem_singleton.1 h] at hb ⊢;exact h3 hb
 have f2:isFirst (l.take i++[c]) c=true↔0≤bestI c∧∀ k∈l.take i,0≤bestI k→keyC k≤keyC c:=by
  rw [isFirst_iff sT' sc]
  constructor
  · rintro ⟨h1,h2⟩
    exact ⟨h1,fun k hk=>h2 k (by simp [hk])⟩
  · rintro ⟨h1,h2⟩
    refine ⟨h1,fun k hk hb=>?_⟩
    rcases List.mem_append.1 hk with h|h
    · exact h2 k h hb
    · rw [List.mem_singleton.1 h];exact Int.le_refl _
 have same:(∀ j∈numsTo i,isFirst (l.take i) l[j.toNat]! = true→0≤bestI c→keyC c≤keyC l[j.toNat]!)→(numsTo i).filter (fun j=>isFirst (l.take i++[c]) l[j.toNat]!)=firstsK l i:=fun h=>by
  rw [firstsK]
  refine List.filter_congr fun j hj=>?_
  rw [Bool.eq_iff_iff,f1 _ (sT _ (get j hj))]
  exact ⟨fun h=>h.1,fun hh=>⟨hh,h j hj hh⟩⟩
 rw [e1,stepF,← hc]
 by_cases hb:bestI c<0
 · rw [if_pos hb,same (fun _ _ _ h=>by omega),if_neg (fun h=>by have:=(f2.1 h).1;omega),List.append_nil]
 · rw [if_neg hb]
   by_cases hO:firstsK l i=[]
   · rw [if_pos hO]
     have none:∀ j∈numsTo i,isFirst (l.take i) l[j.toNat]! = false:=fun j hj=>by
      have:=List.filter_eq_nil_iff.1 hO j hj
      simpa using this
     have hn:∀ k∈l.take i,bestI k<0:=fun k hk=>by
      refine Int.not_le.1 fun hbk=>?_
      obtain ⟨m,hm,bm,hM⟩:=max_card ⟨k,hk,hbk⟩
      obtain ⟨j,hj,rfl⟩:=List.mem_take_iff_getElem.1 hm
      have h1:=none j (numsTo_mem.2 (by omega))
      rw [Int.toNat_natCast,getElem!_pos l j (by omega)] at h1
      rw [(isFirst_iff sT (sT _ hm)).2 ⟨bm,hM⟩] at h1
      cases h1
     rw [if_pos (f2.2 ⟨by omega,fun k hk hbk=>by have:=hn k hk;omega⟩),List.filter_eq_nil_iff.2 fun j hj h=>by
      have:=((f1 _ (sT _ (get j hj))).1 h).1
      rw [none j hj] at this
      cases this]
     rfl
   · rw [if_neg hO]
     have hl:0<(firstsK l i).length:=List.length_pos_iff.2 hO
     obtain ⟨o,ho⟩:∃ o,o=(firstsK l i)[0]! := ⟨_,rfl⟩
     have hm:o∈firstsK l i:=by rw [ho,getElem!_pos _ 0 hl];exact List.getElem_mem hl
     have hm':=List.mem_filter.1 hm
     have so:=sT _ (get o hm'.1)
     obtain ⟨g1,g2⟩:=(isFirst_iff sT so).1 hm'.2
     have hk:=higher_key sc so
     rw [← ho]
     by_cases c1:higherI c l[o.toNat]! < 0
     · rw [if_pos c1,same (fun j hj hf _=>by
        have:=((isFirst_iff sT (sT _ (get j hj))).1 hf).2 _ (get o hm'.1) g1
        have:=hk.2.1 c1
        omega),if_neg (fun h=>by
        have h1:=(f2.1 h).2 _ (get o hm'.1) g1
        have:=hk.2.1 c1
        omega),List.append_nil]
     · rw [if_neg c1]
       by_cases c2:(0:Int)<higherI c l[o.toNat]!
       · have:=hk.1.1 c2
         rw [if_pos c2,if_pos (f2.2 ⟨by omega,fun k hk' hbk=>by have:=g2 k hk' hbk;omega⟩),List.filter_eq_nil_iff.2 fun j hj h=>by
          have h1:=((f1 _ (sT _ (get j hj))).1 h)
          have h2:=h1.2 (by omega)
          have h3:=g2 _ (get j hj) ((isFirst_iff sT (sT _ (get j hj))).1 h1.1).1
          omega]
         rfl
       · have e:keyC c=keyC l[o.toNat]! := by
          have h1:¬ keyC l[o.toNat]! < keyC c:=fun h=>c2 (hk.1.2 h)
          have h2:¬ keyC c<keyC l[o.toNat]! := fun h=>c1 (hk.2.2 h)
          omega
         rw [if_neg c2,same (fun j hj hf _=>by
          have:=((isFirst_iff sT (sT _ (get j hj))).1 hf).2 _ (get o hm'.1) g1
          omega),if_pos (f2.2 ⟨by omega,fun k hk' hbk=>by have:=g2 k hk' hbk;omega⟩)]
theorem firstsK_all {l:List Card}:firstsK l l.length=firstsL l:=by rw [firstsK,List.take_length,firstsL]
end Go.Ab.Ch6

/-
  Own work: chapter 6: cards, by the program: the first ones.
-/
namespace Go.Ab.Ch6
open Go.Ab.Sort
variable {M:Mach} {cap c1 c2:Option Nat}
theorem okC_small {c:Card} (h:okC c) (hb:0≤bestI c):smallC c:=by
 obtain ⟨_,b2⟩:=bestI_lt c
 have h1:=failN_le c.hs[(bestI c).toNat]!
 have h2:=str_get h.2.2.2.1 (i:=(bestI c).toNat) (by omega)
 have h3:totalN c≤1000*1000:=Nat.le_trans (sumF_le (B:=1000) fun s hs=>h.2.2.2.1 s (List.mem_of_mem_take hs)) (Nat.mul_le_mul_right _ (by rw [List.length_take];have:=h.2.1;omega))
 exact ⟨by omega,by omega⟩
set_option maxHeartbeats 1000000 in
theorem w88 (hft:M.FT=FT) (c90:∀ (c:Card) h,okC c→M.ext 90 [.agg (cardC c)] h=some ⟨.int .i64 (bestI c),h,[]⟩) (c91:∀ (a b:Card) h,okC a→okC b→0≤bestI a→0≤bestI b→M.ext 91 [.agg (cardC a),.agg (cardC b)] h=some ⟨.int .i64 (higherI a b),h,[]⟩)
 (l:List Card) (hl:l.length<1000) (hL:∀ c∈l,okC c) (hS:∀ c∈l,smallC c):∃ v hh,FrN hh v (.vs (ints (firstsL l)) (firstsL l).length none)∧Run M 88 [.vs (cardsC l) l.length cap] [] ⟨v,hh,[]⟩:=by
 refine run_ofE (P:=fun v hh=>FrN hh v (.vs (ints (firstsL l)) (firstsL l).length none)) (by rw [hft];exact ft88) (by simp) ?_
 unfold b88
 simp only [enter]
 repeat' first|apply W.seq|apply SQn|apply W.region|apply WO.nil|apply W.block|(apply WO.pp;rfl;rfl)
 refine W.loopI l.length (fun i s=>∃ o a3 a4 a5 lo K wr,s=⟨⟨[.vs (cardsC l) l.length cap,.nilsl,o,a3,a4,a5,.vs (cardsC l) l.length cap,.int .i64 l.length,.int .i64 i],lo,K,[]⟩,wr⟩∧OutE inC 1 3 K o (firstsK l i) []) (fun i s hi ⟨o,a3,a4,a5,lo,K,wr,hs,ho⟩=>?_) (fun s ⟨o,a3,a4,a5,lo,K,wr,hs,ho⟩=>?_) (Nat.zero_le _) ⟨_,_,_,_,_,_,_,rfl,.ofNil⟩
 · subst hs
   have es:=stepF_eq hS hi
   rw [stepF,show l[i]! = l[((i:Int)).toNat]! from rfl] at es
   have okc:=card_get hL hi
   rw [show l[i]! = l[((i:Int)).toNat]! from rfl] at okc
   have q90:=fun h=>c90 l[((i:Int)).toNat]! h okc
   have hlen:(firstsK l i).length≤i:=Nat.le_trans (List.length_filter_le _ _) (by rw [numsTo_length];exact Nat.le_refl _)
   have room:∀ n:Nat,n≤i→(n+1)*8≤roomLimit:=fun n h=>by unfold roomLimit;omega
   unfold b88_0
   by_cases hb:bestI l[((i:Int)).toNat]! < 0
   · rw [if_pos hb] at es
     repeat' first|apply W.seq|apply SQn|apply W.region|apply WO.nil|apply W.block|apply W.exit|apply W.skip|apply SQe|apply BQe|(apply W.condT;rfl)|(apply WO.lss;rfl;rfl;all_goals first|(intro _;exfalso;omega)|intro _)|(apply WO.add;rfl;rfl;omega)|(apply WO.stK;rfl;rfl;exact ⟨rfl,by first|exact Nat.le_refl _|decide|(simp [overwrite]),rfl⟩;rfl)|(apply WO.ldK;rfl;(first|exact at_new|assumption|exact at_old at_new|exact at_old (at_old at_new)|exact at_old (at_old (at_old at_new))|exact at_put (by simp)|((repeat apply at_old);assumption));rfl)|(apply WO.cll;rfl;rfl;first|exact q90 _)|(apply WO.iav;rfl;rfl;omega)|(apply WO.lda;rfl;exact fun _=>rfl;(first|omega|(simp only [List.length_set];omega)|(simp;omega));decide;rfl;case ia=>infer_instance)|(apply WO.hpv;rfl;rfl;rfl)|(apply WO.pl;rfl;rfl)|(apply WO.pp;rfl;rfl)
     exact LIn ⟨_,_,_,_,_,_,_,rfl,by rw [← es];exact (ho.grow [_])⟩
   · rw [if_neg hb] at es
     rcases ho with ⟨h0,rfl⟩|⟨b,cp,hc,rfl,hat,hcap⟩
     · rw [if_pos h0] at es
       repeat' first|apply W.seq|apply SQn|apply W.region|apply WO.nil|apply W.block|apply W.skip|(apply W.condT;rfl)|(apply W.condF;rfl)|(apply WO.lss;rfl;rfl;all_goals first|(intro _;exfalso;omega)|intro _)|(apply WO.gtr;rfl;rfl;all_goals first|(intro _;exfalso;omega)|intro _)|(apply WO.stK;rfl;rfl;exact ⟨rfl,by first|exact Nat.le_refl _|decide|(simp [overwrite]),rfl⟩;rfl)|(apply WO.ldK;rfl;(first|exact at_new|assumption|exact at_old at_new|exact at_old (at_old at_new)|exact at_old (at_old (at_old at_new))|exact at_put (by simp)|((repeat apply at_old);assumption));rfl)|(apply WO.cll;rfl;rfl;first|exact q90 _)|(apply WO.iav;rfl;rfl;omega)|(apply WO.lda;rfl;exact fun _=>rfl;(first|omega|(simp only [List.length_set];omega)|(simp;omega));decide;rfl;case ia=>infer_instance)|(apply WO.hlv;rfl;rfl;rfl)|(apply WO.hpv;rfl;rfl;rfl)|(apply WO.pl;rfl;rfl)|(apply WO.pp;rfl;rfl)
       refine OutE.app (f:=inC) (m:=[(i:Int)]) (S:=[]) (fun _=>rfl) (fun _=>rfl) (by decide) (OutE.ofNil) (by simp) rfl rfl (Sl.ofAt (f:=inC) (esz:=1) (l:=[(i:Int)]) (e:=3) (fun _=>rfl) at_new rfl) (room 0 (by omega)) (fun H w' o' ho' hk hlen=>?_)
       repeat' first|apply SQn|apply W.region|apply WO.nil|apply BQn|(apply WO.add;rfl;rfl;omega)|(apply WO.pp;rfl;rfl)
       exact LIn ⟨_,_,_,_,_,_,_,rfl,by rw [← es];exact ho'⟩
     · have hoE:OutE inC 1 3 K (.sl b 0 (firstsK l i).length 1 cp) (firstsK l i) []:=.inr ⟨b,cp,hc,rfl,hat,hcap⟩
       by_cases h0:firstsK l i=[]
       · rw [if_pos h0] at es
         have hz:(firstsK l i).length=0:=by rw [h0];rfl
         repeat' first|apply W.seq|apply SQn|apply W.region|apply WO.nil|apply W.block|apply W.skip|(apply W.condT;rfl)|(apply W.condF;rfl)|(apply WO.lss;rfl;rfl;all_goals first|(intro _;exfalso;omega)|intro _)|(apply WO.gtr;rfl;rfl;all_goals first|(intro _;exfalso;omega)|intro _)|(apply WO.stK;rfl;rfl;exact ⟨rfl,by first|exact Nat.le_refl _|decide|(simp [overwrite]),rfl⟩;rfl)|(apply WO.ldK;rfl;(first|exact at_new|assumption|exact at_old at_new|exact at_old (at_old at_new)|exact at_old (at_old (at_old at_new))|exact at_put (by simp)|((repeat apply at_old);assumption));rfl)|(apply WO.cll;rfl;rfl;first|exact q90 _)|(apply WO.iav;rfl;rfl;omega)|(apply WO.lda;rfl;exact fun _=>rfl;(first|omega|(simp only [List.length_set];omega)|(simp;omega));decide;rfl;case ia=>infer_instance)|(apply WO.hlv;rfl;rfl;rfl)|(apply WO.hpv;rfl;rfl;rfl)|(apply WO.pl;rfl;rfl)|(apply WO.pp;rfl;rfl)
         rw [h0] at hoE
         rw [show (firstsK l i).length=0 from hz]
         refine OutE.app (f:=inC) (m:=[(i:Int)]) (S:=[]) (fun _=>rfl) (fun _=>rfl) (by decide) ((OutE.grow hoE [_]).grow [_]) (by simp) rfl rfl (Sl.ofAt (f:=inC) (esz:=1) (l:=[(i:Int)]) (e:=3) (fun _=>rfl) at_new rfl) (room 0 (by omega)) (fun H w' o' ho' hk hlen=>?_)
         repeat' first|apply SQn|apply W.region|apply WO.nil|apply BQn|(apply WO.add;rfl;rfl;omega)|(apply WO.pp;rfl;rfl)
         exact LIn ⟨_,_,_,_,_,_,_,rfl,by rw [← es];simpa using ho'⟩
       · rw [if_neg h0] at es
         have hz:0<(firstsK l i).length:=List.length_pos_iff.2 h0
         have hm:(firstsK l i)[0]! ∈ firstsK l i:=by rw [getElem!_pos _ 0 hz];exact List.getElem_mem hz
         have hm':=(List.mem_filter.1 hm)
         have hb0:=numsTo_mem.1 hm'.1
         have ok0:=card_get hL (i:=((firstsK l i)[0]!).toNat) (by omega)
         have bb:0≤bestI l[((firstsK l i)[0]!).toNat]! := by
          have:=hm'.2
          rw [isFirst,Bool.and_eq_true,decide_eq_true_eq] at this
          exact this.1
         have q91:=fun h=>c91 l[((i:Int)).toNat]! l[((firstsK l i)[0]!).toNat]! h okc ok0 (by omega) bb
         have b1:0≤(firstsK l i)[Int.toNat 0]! := hb0.1
         have b2:(firstsK l i)[Int.toNat 0]! < l.length:=(show (firstsK l i)[0]! < (l.length:Int) from by have:=hb0.2;omega)
         obtain ⟨x,hx⟩:∃ x,x=higherI l[((i:Int)).toNat]! l[((firstsK l i)[0]!).toNat]! := ⟨_,rfl⟩
         rw [← hx] at q91 es
         by_cases x1:x<0
         · rw [if_pos x1] at es
           repeat' first|(apply WD.cl0;rfl;rfl;(first|(simp only [List.nil_append,List.cons_append];rfl)|rfl);first|exact q91 _)|apply W.seq|apply SQn|apply W.region|apply WO.nil|apply W.block|apply W.exit|apply W.skip|apply SQe|apply BQe|apply W.draw|apply WD.nil|(apply WD.pure1;rfl)|(apply WD.load1;rfl;rfl;(first|(simp only [List.nil_append,List.cons_append];rfl)|rfl))|(apply W.condT;rfl)|(apply W.condF;rfl)|(apply WO.lss;rfl;rfl;all_goals first|(intro _;exfalso;omega)|intro _)|(apply WO.gtr;rfl;rfl;all_goals first|(intro _;exfalso;omega)|intro _)|(apply WO.add;rfl;rfl;omega)|(apply WO.stK;rfl;rfl;exact ⟨rfl,by first|exact Nat.le_refl _|decide|(simp [overwrite]),rfl⟩;rfl)|(apply WO.ldK;rfl;(first|exact at_new|assumption|exact at_old at_new|exact at_old (at_old at_new)|exact at_old (at_old (at_old at_new))|exact at_put (by simp)|((repeat apply at_old);assumption));rfl)|(apply WO.cll;rfl;rfl;first|exact q90 _)|(apply WO.iav;rfl;rfl;omega)|(apply WO.ias;rfl;rfl;omega)|(apply WO.lda;rfl;exact fun _=>rfl;(first|omega|(simp only [List.length_set];omega)|(simp;omega));decide;rfl;case ia=>infer_instance)|(apply WO.lsa;rfl;(first|rfl|assumption|exact at_new|(apply at_old;assumption)|(apply at_put;first|assumption|(simp only [put_length];assumption)));exact fun _=>rfl;(first|omega|(simp only [List.length_set];omega)|(simp;omega));decide;rfl;case ia=>infer_instance)|(apply WO.hpv;rfl;rfl;rfl)|(apply WO.pl;rfl;rfl)|(apply WO.pp;rfl;rfl)
           all_goals first|(exfalso;omega)|exact LIn ⟨_,_,_,_,_,_,_,rfl,by rw [← es];exact hoE.grow [_]⟩
         · rw [if_neg x1] at es
           by_cases x2:0<x
           · rw [if_pos x2] at es
             repeat' first|(apply WD.cl0;rfl;rfl;(first|(simp only [List.nil_append,List.cons_append];rfl)|rfl);first|exact q91 _)|apply W.seq|apply SQn|apply W.region|apply WO.nil|apply W.block|apply W.skip|apply W.draw|apply WD.nil|(apply WD.pure1;rfl)|(apply WD.load1;rfl;rfl;(first|(simp only [List.nil_append,List.cons_append];rfl)|rfl))|(apply W.condT;rfl)|(apply W.condF;rfl)|(apply WO.lss;rfl;rfl;all_goals first|(intro _;exfalso;omega)|intro _)|(apply WO.gtr;rfl;rfl;all_goals first|(intro _;exfalso;omega)|intro _)|(apply WO.stK;rfl;rfl;exact ⟨rfl,by first|exact Nat.le_refl _|decide|(simp [overwrite]),rfl⟩;rfl)|(apply WO.ldK;rfl;(first|exact at_new|assumption|exact at_old at_new|exact at_old (at_old at_new)|exact at_old (at_old (at_old at_new))|exact at_put (by simp)|((repeat apply at_old);assumption));rfl)|(apply WO.cll;rfl;rfl;first|exact q90 _)|(apply WO.iav;rfl;rfl;omega)|(apply WO.ias;rfl;rfl;omega)|(apply WO.lda;rfl;exact fun _=>rfl;(first|omega|(simp only [List.length_set];omega)|(simp;omega));decide;rfl;case ia=>infer_instance)|(apply WO.lsa;rfl;(first|rfl|assumption|exact at_new|(apply at_old;assumption)|(apply at_put;first|assumption|(simp only [put_length];assumption)));exact fun _=>rfl;(first|omega|(simp only [List.length_set];omega)|(simp;omega));decide;rfl;case ia=>infer_instance)|(apply WO.hlv;rfl;rfl;rfl)|(apply WO.hpv;rfl;rfl;rfl)|(apply WO.pl;rfl;rfl)|(apply WO.pp;rfl;rfl)
             all_goals first|(exfalso;omega)|skip
             refine OutE.app (f:=inC) (m:=[(i:Int)]) (S:=[]) (fun _=>rfl) (fun _=>rfl) (by decide) (OutE.ofNil) (by simp) rfl rfl (Sl.ofAt (f:=inC) (esz:=1) (l:=[(i:Int)]) (e:=3) (fun _=>rfl) at_new rfl) (room 0 (by omega)) (fun H w' o' ho' hk hlen=>?_)
             repeat' first|apply SQn|apply W.region|apply WO.nil|apply BQn|(apply WO.add;rfl;rfl;omega)|(apply WO.pp;rfl;rfl)
             exact LIn ⟨_,_,_,_,_,_,_,rfl,by rw [← es];exact ho'⟩
           · rw [if_neg x2] at es
             repeat' first|(apply WD.cl0;rfl;rfl;(first|(simp only [List.nil_append,List.cons_append];rfl)|rfl);first|exact q91 _)|apply W.seq|apply SQn|apply W.region|apply WO.nil|apply W.block|apply W.skip|apply W.draw|apply WD.nil|(apply WD.pure1;rfl)|(apply WD.load1;rfl;rfl;(first|(simp only [List.nil_append,List.cons_append];rfl)|rfl))|(apply W.condT;rfl)|(apply W.condF;rfl)|(apply WO.lss;rfl;rfl;all_goals first|(intro _;exfalso;omega)|intro _)|(apply WO.gtr;rfl;rfl;all_goals first|(intro _;exfalso;omega)|intro _)|(apply WO.stK;rfl;rfl;exact ⟨rfl,by first|exact Nat.le_refl _|decide|(simp [overwrite]),rfl⟩;rfl)|(apply WO.ldK;rfl;(first|exact at_new|assumption|exact at_old at_new|exact at_old (at_old at_new)|exact at_old (at_old (at_old at_new))|exact at_put (by simp)|((repeat apply at_old);assumption));rfl)|(apply WO.cll;rfl;rfl;first|exact q90 _)|(apply WO.iav;rfl;rfl;omega)|(apply WO.ias;rfl;rfl;omega)|(apply WO.lda;rfl;exact fun _=>rfl;(first|omega|(simp only [List.length_set];omega)|(simp;omega));decide;rfl;case ia=>infer_instance)|(apply WO.lsa;rfl;(first|rfl|assumption|exact at_new|(apply at_old;assumption)|(apply at_put;first|assumption|(simp only [put_length];assumption)));exact fun _=>rfl;(first|omega|(simp only [List.length_set];omega)|(simp;omega));decide;rfl;case ia=>infer_instance)|(apply WO.hlv;rfl;rfl;rfl)|(apply WO.hpv;rfl;rfl;rfl)|(apply WO.pl;rfl;rfl)|(apply WO.pp;rfl;rfl)
             all_goals first|(exfalso;omega)|skip
             refine OutE.app (f:=inC) (m:=[(i:Int)]) (S:=[]) (fun _=>rfl) (fun _=>rfl) (by decide) ((hoE.grow [_]).grow [_]) (by simp) rfl rfl (Sl.ofAt (f:=inC) (esz:=1) (l:=[(i:Int)]) (e:=3) (fun _=>rfl) at_new rfl) (room _ hlen) (fun H w' o' ho' hk hlen=>?_)
             repeat' first|apply SQn|apply W.region|apply WO.nil|apply BQn|(apply WO.add;rfl;rfl;omega)|(apply WO.pp;rfl;rfl)
             exact LIn ⟨_,_,_,_,_,_,_,rfl,by rw [← es];exact ho'⟩
 · subst hs
   rw [firstsK_all] at ho
   unfold b88_0
   repeat' first|apply W.seq|apply SQn|apply W.region|apply WO.nil|apply W.ret|apply W.exit|apply SQe|apply BQe|apply LIe|(apply W.condF;rfl)|(apply WO.lss;rfl;rfl;all_goals first|(intro _;exfalso;omega)|intro _)|(apply WO.pl;rfl;rfl)|(apply WO.pp;rfl;rfl)
   exact ⟨.inr rfl,rfl,_,rfl,ho.finN (fun _=>rfl) (fun _=>rfl) (fun _=>rfl)⟩
end Go.Ab.Ch6

/-
  Own work: chapter 6: cards, by the program: the greatest height that was cleared, by a loop over a function.
-/
namespace Go.Ab.Ch6
open Go.Ab.Sort
variable {M:Mach} {cap c1 c2:Option Nat}
theorem bestG_app:∀ {l:List Str} {i:Nat} {b:Int} {x:Str},bestG i b (l++[x])=if lastB x=111 then ((i+l.length:Nat):Int) else bestG i b l
 | [],i,b,x=>by rw [List.nil_append,bestG,bestG,bestG];rfl
 | s::l,i,b,x=>by
  rw [List.cons_append,bestG,bestG_app,bestG,List.length_cons]
  split
  · omega
  · rfl
theorem bestG_take {l:List Str} {n:Nat} (h:n<l.length):bestG 0 (-1) (l.take (n+1))=if lastB l[n]! = 111 then (n:Int) else bestG 0 (-1) (l.take n):=by
 rw [List.take_add_one,List.getElem?_eq_getElem h,getElem!_pos l n h,Option.toList_some,bestG_app,List.length_take,Nat.zero_add,Nat.min_eq_left (by omega)]
abbrev asgB:ICode:=(.seq (.region [⟨(.p 3),.mv (.p 5),none⟩])
       (.region [⟨(.p 4),.mv (.p 6),none⟩]))
abbrev bodB:ICode:=(.block 1
       (
        .seq (.region [⟨(.l 10),.mv (.p 4),none⟩,
          ⟨(.l 11),.call (.c (.fn (.func 137) [] [])) [(.l 10),(.c (.str [111]))],none⟩])
        (
         .cond (.l 11)
         (
          .seq (.region [⟨(.l 12),.mv (.p 3),none⟩,
            ⟨.no,.store 1 (.p 2) (.l 12),none⟩])
          (.ret))
         (.skip))))
abbrev peB (c:Card) (u3 u4 u5 u6:AV):List AV:=[.agg (cardC c),.ptr 0 0,.ptr 1 0,u3,u4,u5,u6]
abbrev heapB (c:Card) (u3 u4 u5 u6:AV) (z:Int) (st:LoopState) (pend:Option Ex):Heap:=[some (.cells (cardC c) 124),some (.cells [.int .i64 z] 3),some (.cells [.vs (strs c.hs) c.hs.length none] 22),some .dfr,some (.loop st pend (peB c u3 u4 u5 u6) [(.p 5),(.p 6)] asgB bodB)]
theorem retA_len {v:AV} {n:Nat} {s:StW} (h:s.s.hp.length≤n):retA v n s=⟨v,s.s.hp,s.wr.filter (· < n)⟩:=by
 unfold retA
 rw [List.take_of_length_le h]
 split <;> rfl
theorem WO.bestN {t:Nat} {f:IOpd} {args:List IOpd} {ls:List IOper} {pe0:List AV} {lo:List (Nat×AV)} {df wr:List Nat} {Q:StW→Prop} {c:Card} {u3 u4 u5 u6:AV} {i:Int} {s:Str} (hf:(St.mk pe0 lo (heapB c u3 u4 u5 u6 0 .ready none) df).opd f=some (.fn (.yield 4) [] [])) (ha:(St.mk pe0 lo (heapB c u3 u4 u5 u6 0 .ready none) df).opds args=some [.int .i64 i,.str s])
 (q:∀ h,M.ext 137 [.str s,.str [111]] h=some ⟨.bool false,h,[]⟩) (h:∀ wr',WO M ls ⟨⟨pe0,(t,.bool true)::lo,heapB c u3 u4 u5 u6 0 .ready none,df⟩,wr'⟩ Q) :
 WO M (⟨.l t,.call f args,none⟩::ls) ⟨⟨pe0,lo,heapB c u3 u4 u5 u6 0 .ready none,df⟩,wr⟩ Q:=by
 refine WO.cly (s0:=⟨[.agg (cardC c),.ptr 0 0,.ptr 1 0,u3,u4,.int .i64 i,.str s],[],heapB c u3 u4 u5 u6 0 .ready none,[]⟩) hf ha rfl rfl ?_
 repeat' first|apply W.seq|apply SQn|apply W.region|apply WO.nil|(apply WO.pp;rfl;rfl)
 refine YAn rfl ?_
 repeat' first|apply W.seq|apply SQn|apply W.region|apply WO.nil|apply W.block|apply W.skip|apply BQn|(apply W.condF;rfl)|(apply WO.cll;rfl;rfl;first|exact q _)|(apply WO.pl;rfl;rfl)
 refine ⟨_,_,_,_,rfl,rfl,?_⟩
 rw [retA_len (by exact Nat.le_refl 5)]
 exact h _
theorem WO.bestY {t:Nat} {f:IOpd} {args:List IOpd} {ls:List IOper} {pe0:List AV} {lo:List (Nat×AV)} {df wr:List Nat} {Q:StW→Prop} {c:Card} {u3 u4 u5 u6:AV} {i:Int} {s:Str} (hf:(St.mk pe0 lo (heapB c u3 u4 u5 u6 0 .ready none) df).opd f=some (.fn (.yield 4) [] [])) (ha:(St.mk pe0 lo (heapB c u3 u4 u5 u6 0 .ready none) df).opds args=some [.int .i64 i,.str s])
 (q:∀ h,M.ext 137 [.str s,.str [111]] h=some ⟨.bool true,h,[]⟩) (h:∀ wr',WO M ls ⟨⟨pe0,(t,.bool false)::lo,heapB c u3 u4 u5 u6 i .done (some .ret),df⟩,wr'⟩ Q) :
 WO M (⟨.l t,.call f args,none⟩::ls) ⟨⟨pe0,lo,heapB c u3 u4 u5 u6 0 .ready none,df⟩,wr⟩ Q:=by
 refine WO.cly (s0:=⟨[.agg (cardC c),.ptr 0 0,.ptr 1 0,u3,u4,.int .i64 i,.str s],[],heapB c u3 u4 u5 u6 0 .ready none,[]⟩) hf ha rfl rfl ?_
 repeat' first|apply W.seq|apply SQn|apply W.region|apply WO.nil|(apply WO.pp;rfl;rfl)
 refine YAn rfl ?_
 repeat' first|apply W.seq|apply SQn|apply W.region|apply WO.nil|apply W.block|apply W.ret|apply BQr|(apply W.condT;rfl)|(apply WO.cll;rfl;rfl;first|exact q _)|(apply WO.stj;rfl;rfl;rfl;exact ⟨rfl,by decide,rfl⟩;rfl)|(apply WO.pl;rfl;rfl)
 refine ⟨_,_,_,_,rfl,rfl,?_⟩
 rw [retA_len (by exact Nat.le_refl 5)]
 exact h _
def K90 (c:Card) (u3 u4 u5 u6:AV) (r:HR):Prop:=(bestI c = -1∧r.h=heapB c u3 u4 u5 u6 0 .ready none)∨r.h=heapB c u3 u4 u5 u6 (bestI c) .done (some .ret)
theorem r190 (hft:M.FT=FT) (c137:∀ (s:Str) (b:UInt8) h,s.length<1000000→M.ext 137 [.str s,.str [b]] h=some ⟨.bool (endB b s),h,[]⟩) (c:Card) (ok:okC c) (u3 u4 u5 u6:AV) :
 WRun M 190 [.fn (.yield 4) [] [],.ptr 2 0] (heapB c u3 u4 u5 u6 0 .ready none) (K90 c u3 u4 u5 u6):=by
 have hl:=ok.2.1
 refine WRun.of_W (by rw [hft];exact ft190) (by simp) ?_
 unfold b190
 simp only [enter]
 repeat' first|apply W.seq|apply SQn|apply W.region|apply WO.nil|apply W.block|(apply WO.sub;rfl;rfl;omega)|(apply WO.ldK;rfl;rfl;rfl)|(apply WO.pl;rfl;rfl)|(apply WO.pp;rfl;rfl)
 have loop:∀ (n:Nat) lo wr,n≤c.hs.length→bestI c=bestG 0 (-1) (c.hs.take n)→W M (.loop b190_0) ⟨⟨[.fn (.yield 4) [] [],.ptr 2 0,.int .i64 ((n:Int)-1)],lo,heapB c u3 u4 u5 u6 0 .ready none,[]⟩,wr⟩ (BQ 0 fun e s=>(e = .normal∨e = .ret)∧∃ s',takeDfs s.s.dfs s=some s'∧∃ vs,resultsA s'.s []=some vs∧K90 c u3 u4 u5 u6 (retA (tupA vs) (heapB c u3 u4 u5 u6 0 .ready none).length s')):=by
  intro n
  induction n with
  | zero=>
   intro lo wr hn he
   refine W.loop ?_
   unfold b190_0
   repeat' first|apply W.seq|apply SQn|apply W.region|apply WO.nil|apply W.exit|apply SQe|apply BQe|apply LQe|(apply W.condF;rfl)|(apply WO.geq;rfl;rfl;all_goals first|(intro _;exfalso;omega)|intro _)|(apply WO.pl;rfl;rfl)
   refine ⟨.inl rfl,_,rfl,_,rfl,?_⟩
   rw [retA_len (by exact Nat.le_refl 5)]
   exact .inl ⟨by rw [he];rfl,rfl⟩
  | succ n ih=>
   intro lo wr hn he
   rw [bestG_take (by omega)] at he
   have hs:=str_get ok.2.2.2.1 (i:=n) (by omega)
   have q137:=fun h=>c137 c.hs[n]! 111 h (by omega)
   rw [endB_last (by decide)] at q137
   have eI:(((n+1:Nat):Int)-1)=n:=by omega
   rw [eI]
   refine W.loop ?_
   unfold b190_0
   by_cases hb:lastB c.hs[n]! = 111
   · rw [if_pos hb] at he
     rw [decide_eq_true (show lastB c.hs[n]! = (111:UInt8).toNat from hb)] at q137
     repeat' first|(refine WO.bestY (s:=c.hs[n]!) (i:=n) rfl rfl q137 (fun wr'=>?_))|apply W.seq|apply SQn|apply W.region|apply WO.nil|apply W.block|apply W.ret|apply W.skip|apply SQr|apply BQr|apply LQr|(apply W.condT;rfl)|(apply WO.geq;rfl;rfl;all_goals first|(intro _;exfalso;omega)|intro _)|(apply WO.ldK;rfl;rfl;rfl)|(apply WO.iav;rfl;rfl;omega)|(apply WO.lda;rfl;exact fun _=>rfl;(first|omega|(simp only [List.length_set];omega)|(simp;omega));decide;rfl;case ia=>infer_instance)|(apply WO.pl;rfl;rfl)
     refine ⟨.inr rfl,_,rfl,_,rfl,?_⟩
     rw [retA_len (by exact Nat.le_refl 5)]
     exact .inr (by rw [he])
   · rw [if_neg hb] at he
     rw [decide_eq_false (show ¬ lastB c.hs[n]! = (111:UInt8).toNat from hb)] at q137
     repeat' first|(refine WO.bestN (s:=c.hs[n]!) (i:=n) rfl rfl q137 (fun wr'=>?_))|apply W.seq|apply SQn|apply W.region|apply WO.nil|apply W.block|apply W.skip|apply BQn|(apply W.condT;rfl)|(apply W.condF;rfl)|(apply WO.geq;rfl;rfl;all_goals first|(intro _;exfalso;omega)|intro _)|(apply WO.sub;rfl;rfl;omega)|(apply WO.ldK;rfl;rfl;rfl)|(apply WO.iav;rfl;rfl;omega)|(apply WO.lda;rfl;exact fun _=>rfl;(first|omega|(simp only [List.length_set];omega)|(simp;omega));decide;rfl;case ia=>infer_instance)|(apply WO.pl;rfl;rfl)|(apply WO.pp;rfl;rfl)
     exact LQn (ih _ _ (by omega) he)
 exact loop c.hs.length _ _ (Nat.le_refl _) (by rw [List.take_length];rfl)
theorem w136 (hft:M.FT=FT) (v:AV) (l:List Str) (hv:v = .vs (strs l) l.length cap) (hp:Heap):Run M 136 [v] hp ⟨.fn (.func 190) [] [.ptr hp.length 0],hp++[some (.cells [v] 22)],[]⟩:=by
 subst hv
 refine run_of_WH (by rw [hft];exact ft136) (by simp) ?_
 unfold b136
 simp only [enter]
 repeat' first|apply W.seq|apply SQn|apply W.region|apply WO.nil|apply W.ret|(apply WO.hpv;rfl;rfl;rfl)|(apply WO.pl;rfl;rfl)|(apply WO.pp;rfl;rfl)
 refine ⟨.inr rfl,rfl,_,rfl,?_⟩
 simp only [retA]
 rw [if_neg (by simp [tupA,AV.top,topL];omega)]
 rfl
theorem w90 (hft:M.FT=FT) (n136:∀ ars h,M.ext 136 ars h=none) (c137:∀ (s:Str) (b:UInt8) h,s.length<1000000→M.ext 137 [.str s,.str [b]] h=some ⟨.bool (endB b s),h,[]⟩) (c:Card) (ok:okC c):Run M 90 [.agg (cardC c)] [] ⟨.int .i64 (bestI c),[],[]⟩:=by
 have hl:=ok.2.1
 have q136:=fun h=>CT.run (fi:=[]) (ca:=[]) (ars:=[.vs (strs c.hs) c.hs.length none]) (n136 _ _) (w136 (M:=M) hft (.vs (strs c.hs) c.hs.length none) c.hs rfl h)
 have fin:∀ (K:HR→Prop) {v:AV} {s:StW},v.top=0→K ⟨v,[],[]⟩→K (retA v ([]:Heap).length s):=fun K v s hv hk=>by
  rw [retA_tight (by rw [hv];exact Nat.zero_le _)]
  · have e1:s.s.hp.take ([]:Heap).length=[]:=rfl
    have e2:s.wr.filter (· < ([]:Heap).length)=[]:=by
     rw [List.filter_eq_nil_iff];intro x _;simp
    rw [e1,e2]
    exact hk
  · simp only [tight,List.all_eq_true]
    intro x hx
    split <;> simp
 have:=WRun.of_W (M:=M) (f:=90) (ars:=[.agg (cardC c)]) (h:=[]) (K:=fun r=>r=⟨.int .i64 (bestI c),[],[]⟩) (by rw [hft];exact ft90) (by simp) (by
  unfold b90
  simp only [enter]
  repeat' first|apply W.seq|apply SQn|apply W.region|apply WO.nil|apply W.block|(apply WO.ct;rfl;rfl;first|exact q136 _)|(apply WO.ldK;rfl;(first|exact at_new|assumption|exact at_old at_new|exact at_old (at_old at_new)|exact at_old (at_old (at_old at_new))|exact at_put (by simp)|((repeat apply at_old);assumption));rfl)|(apply WO.hpv;rfl;rfl;rfl)|(apply WO.pl;rfl;rfl)
  refine W.rangeF (g:=190) (fi:=[]) (ca:=[.ptr 2 0]) rfl ?_
  obtain ⟨r,hr,hK⟩:=(r190 hft c137 c ok undefA undefA undefA undefA).out
  refine ⟨r,hr,?_⟩
  rcases hK with ⟨hb,hh⟩|hh
  · rw [hh]
    refine ⟨_,_,_,_,_,_,rfl,by simp,?_⟩
    repeat' first|apply W.seq|apply SQn|apply W.region|apply WO.nil|apply W.ret|apply BQn|(apply WO.stj;rfl;rfl;rfl;exact ⟨rfl,by decide,rfl⟩;rfl)
    exact ⟨.inr rfl,_,rfl,_,rfl,fin (fun r=>r=⟨.int .i64 (bestI c),[],[]⟩) rfl (by rw [hb];rfl)⟩
  · rw [hh]
    refine ⟨_,_,_,_,_,_,rfl,by simp,?_⟩
    repeat' first|apply SQr|apply BQr
    exact ⟨.inr rfl,_,rfl,_,rfl,fin (fun r=>r=⟨.int .i64 (bestI c),[],[]⟩) rfl rfl⟩)
 obtain ⟨r,hr,rfl⟩:=this.out
 exact hr
end Go.Ab.Ch6

/-
  Own work: chapter 6: cards, by the program: the error of cards.
-/
namespace Go.Ab.Ch6
open Go.Ab.Sort
variable {M:Mach} {cap c1 c2:Option Nat}
def vcE (names:List Str) (hs:List Int) (step:Int) (l:List Card):Int:=if verticalE names hs step≠0 then verticalE names hs step else cardsE names hs l
theorem cardE_first {names:List Str} {hs:List Int} {i:Nat} {c:Card} {a b:Int} (h1:a=if c.who≠names[i]! then 10 else 0) (h2:b=if hs.length<c.hs.length then 5 else 0):firstNZ [a,formE c,b]=cardE names hs i c:=by
 rw [first3,cardE,h1,h2]
 by_cases hw:c.who≠names[i]!
 · rw [if_pos hw,if_pos hw,if_pos (by decide)]
 · rw [if_neg hw,if_neg hw,if_neg (by decide)]
set_option maxHeartbeats 2000000 in
theorem w48 (C:CF M) (c13:∀ (l:List Str) (hs:List Int) step c1 c2 h,l.length<1000000→(∀ s∈l,s.length<1000000)→hs.length<1000000→M.ext 13 [.agg [.vs (strs l) l.length c1,.vs (ints hs) hs.length c2,.int .i64 step]] h=some ⟨.int .i64 (verticalE l hs step),h,[]⟩)
 (c97:∀ (c:Card) h,okC c→M.ext 97 [.agg (cardC c)] h=some ⟨.int .i64 (formE c),h,[]⟩)
 (names:List Str) (hs:List Int) (step:Int) (l:List Card) (hl:l.length<1000) (hL:∀ c∈l,okC c) (hn:names.length<1000000) (hN:∀ s∈names,s.length<1000000) (hh:hs.length<1000000) :
 Run M 48 [.agg (vertC names hs step c1 c2),.vs (cardsC l) l.length cap] [] ⟨.int .i64 (vcE names hs step l),[],[]⟩:=by
 have q13:=fun h=>c13 names hs step c1 c2 h hn hN hh
 have qt:∀ e h,M.ext 64 [.bool true,.int .i64 e] h=some ⟨.int .i64 e,h,[]⟩:=fun e h=>by rw [C.c64];rfl
 have qf:∀ e h,M.ext 64 [.bool false,.int .i64 e] h=some ⟨.int .i64 0,h,[]⟩:=fun e h=>by rw [C.c64];rfl
 refine run_of_W (by rw [C.ft];exact ft48) (by simp) ?_
 unfold b48
 simp only [enter]
 unfold vcE
 by_cases hv:verticalE names hs step=0
 · rw [hv] at q13 ⊢
   rw [if_neg (by decide)]
   by_cases h0:l.length=names.length
   · have q2:=C.q2 [some (.cells (vertC names hs step c1 c2) 35)] 0 0
     rw [first2,if_neg (by decide)] at q2
     have e0:cardsE names hs l=cardsF names hs 0 l:=by rw [cardsE,if_neg (fun h=>h h0)]
     rw [e0]
     repeat' first|(apply WD.cl0;rfl;rfl;(first|(simp only [List.nil_append,List.cons_append];rfl)|rfl);first|exact q13 _|exact qt _ _|exact qf _ _|exact q2)|(apply WO.ldK;rfl;rfl;rfl)|apply W.seq|apply SQn|apply W.region|apply WO.nil|apply W.block|apply W.skip|apply W.draw|apply WD.nil|(apply WD.pure1;rfl)|(apply WD.load1;rfl;rfl;(first|(simp only [List.nil_append,List.cons_append];rfl)|rfl))|(apply WD.new1;rfl)|(apply W.condF;rfl)|(apply WO.neq;rfl;rfl;all_goals first|(intro _;exfalso;omega)|intro _)|(apply WO.hlv;rfl;rfl;rfl)|(apply WO.hpv;rfl;rfl;rfl)|(apply WO.pl;rfl;rfl)|(apply WO.pp;rfl;rfl)
     all_goals first|(exfalso;omega)|skip
     refine W.loopI l.length (fun i s=>cardsF names hs 0 l=cardsF names hs i (l.drop i)∧∃ a4 a5 a6 a7 lo K wr,s=⟨⟨[.agg (vertC names hs step c1 c2),.vs (cardsC l) l.length cap,.ptr 0 0,.int .i64 0,a4,a5,a6,a7,.vs (cardsC l) l.length cap,.int .i64 l.length,.int .i64 i],lo,K,[]⟩,wr⟩∧K.at 0=some (.cells (vertC names hs step c1 c2) 35)) (fun i s hi ⟨he,a4,a5,a6,a7,lo,K,wr,hs',hK⟩=>?_) (fun s ⟨he,a4,a5,a6,a7,lo,K,wr,hs',hK⟩=>?_) (Nat.zero_le _) ⟨rfl,_,_,_,_,_,_,_,rfl,rfl⟩
     · subst hs'
       have e:=cardsF_drop (names:=names) (hs:=hs) hi
       rw [show l[i]! = l[((i:Int)).toNat]! from rfl] at e
       have ok:=card_get hL hi
       rw [show l[i]! = l[((i:Int)).toNat]! from rfl] at ok
       have q97:=fun h=>c97 l[((i:Int)).toNat]! h ok
       have h1:=fun a b=>cardE_first (names:=names) (hs:=hs) (i:=i) (c:=l[((i:Int)).toNat]!) (a:=a) (b:=b)
       have fin:∀ a b,a=(if (l[((i:Int)).toNat]!).who≠names[i]! then 10 else 0)→b=(if hs.length<(l[((i:Int)).toNat]!).hs.length then 5 else 0)→∀ H,M.ext 61 [.sl H.length 0 3 1 (some 3)] (H++[some (.cells [.int .i64 a,.int .i64 (formE l[((i:Int)).toNat]!),.int .i64 b] 30)])=some ⟨.int .i64 (cardE names hs i l[((i:Int)).toNat]!),H++[some (.cells [.int .i64 a,.int .i64 (formE l[((i:Int)).toNat]!),.int .i64 b] 30)],[]⟩:=fun a b ha hb H=>by
        rw [← h1 a b ha hb]
        exact C.q3 H a _ b
       generalize formE l[((i:Int)).toNat]! = F at *
       generalize cardE names hs i l[((i:Int)).toNat]! = E at *
       unfold b48_0
       by_cases hw:(l[((i:Int)).toNat]!).who=names[((i:Int)).toNat]! <;> by_cases hh2:hs.length<(l[((i:Int)).toNat]!).hs.length <;> by_cases hE:E=0 <;> skip
       all_goals
        have fin':=fin _ _ rfl rfl
        simp only [hh2,show names[i]! = names[((i:Int)).toNat]! from rfl,ne_eq,hw,if_true,if_false,not_true_eq_false,not_false_eq_true] at fin'
        repeat' first|(apply WD.cl0;rfl;rfl;(first|(simp only [List.nil_append,List.cons_append];rfl)|rfl);first|exact q97 _|exact qt _ _|exact qf _ _|exact fin' _)|(apply WO.ldK;rfl;(first|exact at_old hK|exact at_new);rfl)|apply W.seq|apply SQn|apply W.region|apply WO.nil|apply W.block|apply W.ret|apply W.skip|apply SQr|apply BQn|apply BQr|apply LIr|apply W.draw|apply WD.nil|(apply WD.pure1;rfl)|(apply WD.load1;rfl;rfl;(first|(simp only [List.nil_append,List.cons_append];rfl)|rfl))|(apply WD.new1;rfl)|(apply W.condT;rfl)|(apply W.condF;rfl)|(apply WO.lss;rfl;rfl;all_goals first|(intro _;exfalso;omega)|intro _)|(apply WO.gtr;rfl;rfl;all_goals first|(intro _;exfalso;omega)|intro _)|(apply WO.neq;rfl;rfl;all_goals first|(intro _;exfalso;omega)|intro _)|(apply WO.add;rfl;rfl;omega)|(apply WO.stK;rfl;rfl;exact ⟨rfl,by first|exact Nat.le_refl _|decide|(simp [overwrite]),rfl⟩;rfl)|(apply WO.iav;rfl;rfl;omega)|(apply WO.lda;rfl;exact fun _=>rfl;(first|omega|(simp only [List.length_set];omega)|(simp;omega));decide;rfl;case ia=>infer_instance)|(apply WO.sneq;rfl;rfl;all_goals first|(intro h;exact absurd h (by decide))|(intro h;exact absurd rfl h)|(intro h;contradiction)|intro _)|(apply WO.hlv;rfl;rfl;rfl)|(apply WO.hpv;rfl;rfl;rfl)|(apply WO.pl;rfl;rfl)|(apply WO.pp;rfl;rfl)
        all_goals first
         | contradiction
         | (exfalso;omega)
         | (rw [if_pos hE] at e;exact ⟨.inr rfl,rfl,_,rfl,by rw [he,e];rfl,rfl⟩)
         | (rw [if_neg (fun h=>h hE)] at e;exact LIn ⟨he.trans e,_,_,_,_,_,_,_,rfl,at_old (at_old hK)⟩)
         | skip
     · subst hs'
       rw [List.drop_length] at he
       unfold b48_0
       repeat' first|apply W.seq|apply SQn|apply W.region|apply WO.nil|apply W.ret|apply W.exit|apply SQe|apply BQe|apply LIe|(apply W.condF;rfl)|(apply WO.lss;rfl;rfl;all_goals first|(intro _;exfalso;omega)|intro _)|(apply WO.pp;rfl;rfl)
       exact ⟨.inr rfl,rfl,_,rfl,by rw [he];rfl,rfl⟩
   · have q2:=C.q2 [some (.cells (vertC names hs step c1 c2) 35)] 0 2
     rw [first2,if_neg (by decide)] at q2
     repeat' first|(apply WD.cl0;rfl;rfl;(first|(simp only [List.nil_append,List.cons_append];rfl)|rfl);first|exact q13 _|exact qt _ _|exact qf _ _|exact q2)|(apply WO.ldK;rfl;rfl;rfl)|apply W.seq|apply SQn|apply W.region|apply WO.nil|apply W.ret|apply SQr|apply W.draw|apply WD.nil|(apply WD.pure1;rfl)|(apply WD.load1;rfl;rfl;(first|(simp only [List.nil_append,List.cons_append];rfl)|rfl))|(apply WD.new1;rfl)|(apply W.condT;rfl)|(apply WO.neq;rfl;rfl;all_goals first|(intro _;exfalso;omega)|intro _)|(apply WO.hlv;rfl;rfl;rfl)|(apply WO.hpv;rfl;rfl;rfl)|(apply WO.pl;rfl;rfl)|(apply WO.pp;rfl;rfl)
     all_goals first|(exfalso;omega)|contradiction|exact ⟨.inr rfl,rfl,_,rfl,by rw [cardsE,if_pos h0];rfl,rfl⟩
 · rw [if_pos hv]
   have q2:=fun x=>C.q2 [some (.cells (vertC names hs step c1 c2) 35)] (verticalE names hs step) x
   simp only [first2,if_pos hv] at q2
   generalize verticalE names hs step=E at *
   repeat' first|(apply WD.cl0;rfl;rfl;(first|(simp only [List.nil_append,List.cons_append];rfl)|rfl);first|exact q13 _|exact qt _ _|exact qf _ _|exact q2 _)|(apply WO.ldK;rfl;rfl;rfl)|apply W.seq|apply SQn|apply W.region|apply WO.nil|apply W.ret|apply SQr|apply W.draw|apply WD.nil|(apply WD.pure1;rfl)|(apply WD.load1;rfl;rfl;(first|(simp only [List.nil_append,List.cons_append];rfl)|rfl))|(apply WD.new1;rfl)|(apply W.condT;rfl)|(apply WO.neq;rfl;rfl;all_goals first|(intro _;exfalso;omega)|intro _)|(apply WO.hlv;rfl;rfl;rfl)|(apply WO.hpv;rfl;rfl;rfl)|(apply WO.pl;rfl;rfl)|(apply WO.pp;rfl;rfl)
   all_goals first|(exfalso;omega)|contradiction|exact ⟨.inr rfl,rfl,_,rfl,rfl,rfl⟩
end Go.Ab.Ch6

/-
  Own work: chapter 6: cards, by the program: the heights of the jump-off.
-/
namespace Go.Ab.Ch6
open Go.Ab.Sort
variable {M:Mach} {cap c1 c2:Option Nat}
theorem w147 (hft:M.FT=FT) (c:Card) (n b:Nat) (hp:Heap) (hb:hp.at b=some (.cells [.int .i64 n] 3)) (hn:n<1000000):Run M 147 [.agg (cardC c),.ptr b 0] hp ⟨.bool (clearC n c),hp,[]⟩:=by
 refine run_dropT (by rw [hft];exact ft147) (by simp) (Nat.zero_le _) ?_
 unfold b147
 simp only [enter]
 have fin:∀ (x:Bool) (s:StW),x=clearC n c→s.s.dfs=[]→(∃ J,s.s.hp=hp++J)→s.wr=[]→s.s.pe[3]? = some (.bool x)→(fun (x:Ex) (s:StW)=>(x = .normal∨x = .ret)∧s.s.dfs=[]∧(∃ J,s.s.hp=hp++J)∧(∀ x∈s.wr,hp.length≤x)∧∃ vs,resultsA s.s [.var (.p 3)]=some vs∧tupA vs = .bool (clearC n c)) Ex.ret s:=fun x s hx h1 h2 h3 h4=>by
  subst hx
  exact ⟨.inr rfl,h1,h2,by rw [h3];simp,[.bool (clearC n c)],by simp only [resultsA,St.opd,h4],rfl⟩
 by_cases h1:n<c.off.length
 · by_cases h2:c.off[((n:Int)).toNat]! = [111]
   · repeat' first|(apply WO.ldK;rfl;(first|exact at_old hb|exact at_new);rfl)|apply W.seq|apply SQn|apply W.region|apply WO.nil|apply W.ret|(apply WO.gT;rfl)|(apply WO.lss;rfl;rfl;all_goals first|(intro _;exfalso;omega)|intro _)|(apply WO.pkT;rfl;rfl)|(apply WO.iav;rfl;rfl;omega)|(apply WO.lda;rfl;exact fun _=>rfl;(first|omega|(simp only [List.length_set];omega)|(simp;omega));decide;rfl;case ia=>infer_instance)|(apply WO.seql;rfl;rfl;all_goals first|(intro h;exact absurd h (by decide))|(intro h;exact absurd rfl h)|(intro h;contradiction)|intro _)|(apply WO.hpv;rfl;rfl;rfl)|(apply WO.pl;rfl;rfl)|(apply WO.pp;rfl;rfl)
     all_goals first|contradiction|(exfalso;omega)|exact fin _ _ (by rw [clearC,decide_eq_true h1,decide_eq_true (show c.off[n]! = sO from h2)];rfl) rfl ⟨_,rfl⟩ rfl rfl
   · repeat' first|(apply WO.ldK;rfl;(first|exact at_old hb|exact at_new);rfl)|apply W.seq|apply SQn|apply W.region|apply WO.nil|apply W.ret|(apply WO.gT;rfl)|(apply WO.lss;rfl;rfl;all_goals first|(intro _;exfalso;omega)|intro _)|(apply WO.pkT;rfl;rfl)|(apply WO.iav;rfl;rfl;omega)|(apply WO.lda;rfl;exact fun _=>rfl;(first|omega|(simp only [List.length_set];omega)|(simp;omega));decide;rfl;case ia=>infer_instance)|(apply WO.seql;rfl;rfl;all_goals first|(intro h;exact absurd h (by decide))|(intro h;exact absurd rfl h)|(intro h;contradiction)|intro _)|(apply WO.hpv;rfl;rfl;rfl)|(apply WO.pl;rfl;rfl)|(apply WO.pp;rfl;rfl)
     all_goals first|contradiction|(exfalso;omega)|exact fin _ _ (by rw [clearC,decide_eq_true h1,decide_eq_false (show ¬ c.off[n]! = sO from h2)];rfl) rfl ⟨_,rfl⟩ rfl rfl
 · repeat' first|(apply WO.ldK;rfl;(first|exact at_old hb|exact at_new);rfl)|apply W.seq|apply SQn|apply W.region|apply WO.nil|apply W.ret|(apply WO.sT;rfl)|(apply WO.lss;rfl;rfl;all_goals first|(intro _;exfalso;omega)|intro _)|(apply WO.pkF;rfl;rfl)|(apply WO.hpv;rfl;rfl;rfl)|(apply WO.pl;rfl;rfl)|(apply WO.pp;rfl;rfl)
   all_goals first|contradiction|(exfalso;omega)|exact fin _ _ (by rw [clearC,decide_eq_false h1];rfl) rfl ⟨_,rfl⟩ rfl rfl
def idxD (p:Card→Bool):List Card→Nat→Int
 | [],_=>-1
 | x::l,i=>if p x then (i:Int) else idxD p l (i+1)
theorem idxD_drop {p:Card→Bool} {l:List Card} {i:Nat} (h:i<l.length):idxD p (l.drop i) i=if p l[i]! then (i:Int) else idxD p (l.drop (i+1)) (i+1):=by
 rw [List.drop_eq_getElem_cons h,getElem!_pos l i h,idxD]
theorem idxD_any {p:Card→Bool}:∀ (l:List Card) (i:Nat),decide (0≤idxD p l i)=l.any p
 | [],i=>by simp [idxD]
 | x::l,i=>by
  rw [idxD,List.any_cons]
  cases p x
  · rw [if_neg (by decide),idxD_any l (i+1),Bool.false_or]
  · rw [if_pos rfl,Bool.true_or,decide_eq_true (by omega)]
theorem w194 (hft:M.FT=FT) {g:AV} {p:Card→Bool} {hp:Heap} (hg:∀ c,CT M g [.agg (cardC c)] hp ⟨.bool (p c),hp,[]⟩) (l:List Card) (hl:l.length<1000):Run M 194 [.vs (cardsC l) l.length cap,g] hp ⟨.int .i64 (idxD p l 0),hp,[]⟩:=by
 refine run_dropT (by rw [hft];exact ft194) (by simp) (Nat.zero_le _) ?_
 unfold b194
 simp only [enter]
 repeat' first|apply W.seq|apply SQn|apply W.region|apply WO.nil|apply W.block|(apply WO.pl;rfl;rfl)|(apply WO.pp;rfl;rfl)
 refine W.loopI l.length (fun i s=>idxD p l 0=idxD p (l.drop i) i∧∃ a3 lo,s=⟨⟨[.vs (cardsC l) l.length cap,g,.int .i64 0,a3,.int .i64 l.length,.int .i64 i],lo,hp,[]⟩,[]⟩) (fun i s hi ⟨he,a3,lo,hs⟩=>?_) (fun s ⟨he,a3,lo,hs⟩=>?_) (Nat.zero_le _) ⟨rfl,_,_,rfl⟩
 · subst hs
   have e:=idxD_drop (p:=p) hi
   rw [show l[i]! = l[((i:Int)).toNat]! from rfl] at e
   have q:=hg l[((i:Int)).toNat]!
   unfold b194_0
   cases hp':p l[((i:Int)).toNat]! with
   | true=>
    rw [hp'] at q e
    repeat' first|apply W.seq|apply SQn|apply W.region|apply WO.nil|apply W.block|apply W.ret|apply W.skip|apply SQr|apply BQr|apply LIr|(apply W.condT;rfl)|(apply WO.lss;rfl;rfl;all_goals first|(intro _;exfalso;omega)|intro _)|(apply WO.ct;rfl;rfl;first|exact q)|(apply WO.iav;rfl;rfl;omega)|(apply WO.lda;rfl;exact fun _=>rfl;(first|omega|(simp only [List.length_set];omega)|(simp;omega));decide;rfl;case ia=>infer_instance)|(apply WO.pl;rfl;rfl)|(apply WO.pp;rfl;rfl)
    exact ⟨.inr rfl,rfl,⟨[],by simp⟩,by simp,_,rfl,by rw [he,e];rfl⟩
   | false=>
    rw [hp'] at q e
    repeat' first|apply W.seq|apply SQn|apply W.region|apply WO.nil|apply W.block|apply W.skip|apply BQn|(apply W.condT;rfl)|(apply W.condF;rfl)|(apply WO.lss;rfl;rfl;all_goals first|(intro _;exfalso;omega)|intro _)|(apply WO.add;rfl;rfl;omega)|(apply WO.ct;rfl;rfl;first|exact q)|(apply WO.iav;rfl;rfl;omega)|(apply WO.lda;rfl;exact fun _=>rfl;(first|omega|(simp only [List.length_set];omega)|(simp;omega));decide;rfl;case ia=>infer_instance)|(apply WO.pl;rfl;rfl)|(apply WO.pp;rfl;rfl)
    exact LIn ⟨he.trans e,_,_,rfl⟩
 · subst hs
   rw [List.drop_length,idxD] at he
   unfold b194_0
   repeat' first|apply W.seq|apply SQn|apply W.region|apply WO.nil|apply W.ret|apply W.exit|apply SQe|apply BQe|apply LIe|(apply W.condF;rfl)|(apply WO.lss;rfl;rfl;all_goals first|(intro _;exfalso;omega)|intro _)|(apply WO.pp;rfl;rfl)
   exact ⟨.inr rfl,rfl,⟨[],by simp⟩,by simp,_,rfl,by rw [he];rfl⟩
theorem w146 (hft:M.FT=FT) {g:AV} {p:Card→Bool} {hp:Heap} (l:List Card) (q:CT M (.fn (.func 194) [] []) [.vs (cardsC l) l.length cap,g] hp ⟨.int .i64 (idxD p l 0),hp,[]⟩):Run M 146 [.vs (cardsC l) l.length cap,g] hp ⟨.bool (l.any p),hp,[]⟩:=by
 rw [← idxD_any (p:=p) l 0]
 refine run_dropT (by rw [hft];exact ft146) (by simp) (Nat.zero_le _) ?_
 unfold b146
 simp only [enter]
 by_cases h:0≤idxD p l 0
 · rw [decide_eq_true h]
   repeat' first|apply W.seq|apply SQn|apply W.region|apply WO.nil|apply W.ret|(apply WO.geq;rfl;rfl;all_goals first|(intro _;exfalso;omega)|intro _)|(apply WO.ct;rfl;rfl;first|exact q)|(apply WO.pl;rfl;rfl)|(apply WO.pp;rfl;rfl)
   all_goals first|(exfalso;omega)|exact ⟨.inr rfl,rfl,⟨[],by simp⟩,by simp,_,rfl,rfl⟩
 · rw [decide_eq_false h]
   repeat' first|apply W.seq|apply SQn|apply W.region|apply WO.nil|apply W.ret|(apply WO.geq;rfl;rfl;all_goals first|(intro _;exfalso;omega)|intro _)|(apply WO.ct;rfl;rfl;first|exact q)|(apply WO.pl;rfl;rfl)|(apply WO.pp;rfl;rfl)
   all_goals first|(exfalso;omega)|exact ⟨.inr rfl,rfl,⟨[],by simp⟩,by simp,_,rfl,rfl⟩
structure COf (M:Mach):Prop where
 ft:M.FT=FT
 n146:∀ ars h,M.ext 146 ars h=none
 n147:∀ ars h,M.ext 147 ars h=none
 n194:∀ ars h,M.ext 194 ars h=none
 c90:∀ (c:Card) h,okC c→M.ext 90 [.agg (cardC c)] h=some ⟨.int .i64 (bestI c),h,[]⟩
 c88:∀ (l:List Card) cap h,l.length<1000→(∀ c∈l,okC c)→M.ext 88 [.vs (cardsC l) l.length cap] h=some ⟨.vs (ints (firstsL l)) (firstsL l).length none,h,[]⟩
theorem q146 (C:COf M) (l:List Card) (hl:l.length<1000) (n b:Nat) (hn:n<1000000) (hp:Heap) (hb:hp.at b=some (.cells [.int .i64 n] 3)):CT M (.fn (.func 146) [] []) [.vs (cardsC l) l.length cap,.fn (.func 147) [] [.ptr b 0]] hp ⟨.bool (l.any (clearC n)),hp,[]⟩:=
 CT.run (fi:=[]) (ca:=[]) (C.n146 _ _) (w146 C.ft l (CT.run (fi:=[]) (ca:=[]) (C.n194 _ _) (w194 C.ft (fun c=>CT.run (fi:=[]) (ca:=[.ptr b 0]) (C.n147 _ _) (w147 C.ft c n b hp hb hn)) l hl)))
set_option maxHeartbeats 1000000 in
theorem w95 (C:COf M) (names:List Str) (hs:List Int) (step:Int) (l:List Card) (r:Nat) (hl:l.length<1000) (hL:∀ c∈l,okC c) (hr:r<1000)
 (h0:firstsL l≠[]) (hb:bestI (first0 l)<hs.length) (h1:0≤step∧step≤1000) (h2:0≤hs[(bestI (first0 l)).toNat]! ∧ hs[(bestI (first0 l)).toNat]! ≤ 1000000) :
 ∃ v hh,FrN hh v (.vs (ints ((List.range r).map (offH hs step l))) ((List.range r).map (offH hs step l)).length none)∧Run M 95 [.agg (vertC names hs step c1 c2),.vs (cardsC l) l.length cap,.int .i64 r] [] ⟨v,hh,[]⟩:=by
 obtain ⟨f1,f2,f3⟩:=first0_best h0
 have hfl:0<(firstsL l).length:=List.length_pos_iff.2 h0
 have ok0:okC (first0 l):=card_get hL (i:=((firstsL l)[0]!).toNat) (by omega)
 have q90:=fun h=>C.c90 (first0 l) h ok0
 have q88:=fun h=>C.c88 l cap h hl hL
 have bd:=offH_le (l:=l) h1 h2
 refine run_ofE (P:=fun v hh=>FrN hh v (.vs (ints ((List.range r).map (offH hs step l))) ((List.range r).map (offH hs step l)).length none)) (by rw [C.ft];exact ft95) (by simp) ?_
 unfold b95
 simp only [enter]
 have f1':0≤(firstsL l)[Int.toNat 0]! := f1
 have f2':(firstsL l)[Int.toNat 0]! < l.length:=f2
 repeat' first|(apply WD.cl0;rfl;rfl;(first|(simp only [List.nil_append,List.cons_append];rfl)|rfl);first|exact q88 _|exact q90 _)|apply W.seq|apply SQn|apply W.region|apply WO.nil|apply W.block|apply W.draw|apply WD.nil|(apply WD.pure1;rfl)|(apply WD.load1;rfl;rfl;(first|(simp only [List.nil_append,List.cons_append];rfl)|rfl))|(apply WO.add;rfl;rfl;omega)|(apply WO.iav;rfl;rfl;omega)|(apply WO.lda;rfl;exact fun _=>rfl;(first|omega|(simp only [List.length_set];omega)|(simp;omega));decide;rfl;case ia=>infer_instance)|(apply WO.hlv;rfl;rfl;rfl)|(apply WO.hpv;rfl;rfl;rfl)|(apply WO.pl;rfl;rfl)|(apply WO.pp;rfl;rfl)
 refine W.loopI r (fun n s=>∃ o a4 a7 lo K wr,s=⟨⟨[.agg (vertC names hs step c1 c2),.vs (cardsC l) l.length cap,.int .i64 r,.ptr 0 0,a4,.int .i64 (offH hs step l n),o,a7,.int .i64 r,.int .i64 n],lo,K,[]⟩,wr⟩∧OutE inC 1 3 K o ((List.range n).map (offH hs step l)) [0]∧K.at 0=some (.cells (vertC names hs step c1 c2) 35)) (fun n s hn ⟨o,a4,a7,lo,K,wr,hs',ho,hK⟩=>?_) (fun s ⟨o,a4,a7,lo,K,wr,hs',ho,hK⟩=>?_) (Nat.zero_le _) ⟨_,_,_,_,_,_,rfl,.ofNil,rfl⟩
 · subst hs'
   have hK0:=at_lt hK
   have b1:=bd n
   have e:=offHs_take (hs:=hs) (step:=step) (l:=l) (n:=n)
   have eo:offH hs step l (n+1)=if l.any (clearC n)=true then offH hs step l n+step else max step (offH hs step l n-step):=rfl
   have ho2:OutE inC 1 3 ((K++[some (.cells [.int .i64 n] 3)])++[some (.cells (ints [offH hs step l n]) 3)]) o ((List.range n).map (offH hs step l)) [0,K.length]:=((ho.grow [_]).grow [_]).keep (fun _ _ _ h=>h) (fun b hb hx hx2=>by
    rcases List.mem_cons.1 hx2 with h|h
    · exact hx (by rw [h];simp)
    · have:=ho.lt b hb;rw [List.mem_singleton] at h;omega)
   unfold b95_0
   repeat' first|apply W.seq|apply SQn|apply W.region|apply WO.nil|apply W.block|apply W.skip|(apply W.condT;rfl)|(apply WO.lss;rfl;rfl;all_goals first|(intro _;exfalso;omega)|intro _)|(apply WO.stK;rfl;rfl;exact ⟨rfl,by first|exact Nat.le_refl _|decide|(simp [overwrite]),rfl⟩;rfl)|(apply WO.hlv;rfl;rfl;rfl)|(apply WO.hpv;rfl;rfl;rfl)|(apply WO.pl;rfl;rfl)
   refine OutE.app (f:=inC) (m:=[offH hs step l n]) (S:=[0,K.length]) (fun _=>rfl) (fun _=>rfl) (by decide) ho2 (fun x hx=>by
    rcases List.mem_cons.1 hx with h|h
    · simp;omega
    · rw [List.mem_singleton] at h;simp;omega) rfl rfl (Sl.ofAt (f:=inC) (esz:=1) (l:=[offH hs step l n]) (e:=3) (fun _=>rfl) at_new rfl) (by rw [List.length_map,List.length_range];unfold roomLimit;simp;omega) (fun H w' o' ho' hk hlen=>?_)
   have hKH:H.at 0=some (.cells (vertC names hs step c1 c2) 35):=hk _ _ (by simp) (at_old (at_old hK))
   have hn7:H.at K.length=some (.cells [.int .i64 n] 3):=hk _ _ (by simp) (at_old at_new)
   have ho3:OutE inC 1 3 H o' ((List.range (n+1)).map (offH hs step l)) [0]:=by
    rw [e]
    exact ho'.keep (fun _ _ _ h=>h) (fun b _ hx hx2=>hx (by rw [List.mem_singleton.1 hx2];simp))
   have q:=q146 (cap:=cap) C l hl n K.length (by omega) H hn7
   cases hA:l.any (clearC n) with
   | true=>
    rw [hA] at q
    rw [hA,if_pos rfl] at eo
    repeat' first|apply W.seq|apply SQn|apply W.region|apply WO.nil|apply BQn|(apply W.condT;rfl)|(apply WO.add;rfl;rfl;omega)|(apply WO.ct;rfl;rfl;first|exact q)|(apply WO.ldK;rfl;exact hKH;rfl)|(apply WO.pl;rfl;rfl)|(apply WO.pp;rfl;rfl)
    exact LIn ⟨_,_,_,_,_,_,by rw [eo];rfl,ho3,hKH⟩
   | false=>
    rw [hA] at q
    rw [hA,if_neg (by decide),← mxI_eq] at eo
    repeat' first|apply W.seq|apply SQn|apply W.region|apply WO.nil|apply BQn|(apply W.condF;rfl)|(apply WO.add;rfl;rfl;omega)|(apply WO.sub;rfl;rfl;omega)|(apply WO.ct;rfl;rfl;first|exact q)|(apply WO.ldK;rfl;exact hKH;rfl)|(apply WO.pl;rfl;rfl)|(apply WO.pp;rfl;rfl)
    exact LIn ⟨_,_,_,_,_,_,by rw [eo];rfl,ho3,hKH⟩
 · subst hs'
   unfold b95_0
   repeat' first|apply W.seq|apply SQn|apply W.region|apply WO.nil|apply W.ret|apply W.exit|apply SQe|apply BQe|apply LIe|(apply W.condF;rfl)|(apply WO.lss;rfl;rfl;all_goals first|(intro _;exfalso;omega)|intro _)|(apply WO.pl;rfl;rfl)|(apply WO.pp;rfl;rfl)
   exact ⟨.inr rfl,rfl,_,rfl,ho.finN (fun _=>rfl) (fun _=>rfl) (fun _=>rfl)⟩
end Go.Ab.Ch6

/-
  Own work: chapter 6: cards, by the program: OffHeights.
-/
namespace Go.Ab.Ch6
open Go.Ab.Sort
variable {M:Mach} {cap c1 c2:Option Nat}
theorem okC_sm {c:Card} (h:okC c):smallC c:=by
 by_cases hb:0≤bestI c
 · exact okC_small h hb
 · have e1:(bestI c).toNat=0:=by omega
   have e2:(bestI c+1).toNat=0:=by omega
   have h3:totalN c=0:=by rw [totalN,e2,List.take_zero];rfl
   refine ⟨?_,by omega⟩
   rw [e1]
   have h1:=failN_le c.hs[0]!
   by_cases h0:0<c.hs.length
   · have h2:=str_get h.2.2.2.1 (i:=0) h0
     omega
   · have:c.hs=[]:=List.eq_nil_of_length_eq_zero (by omega)
     rw [this];show failN []<10000000;decide
theorem cardsF_all {names:List Str} {hs:List Int}:∀ {l:List Card} {i:Nat},cardsF names hs i l=0→∀ c∈l,formE c=0∧c.hs.length≤hs.length
 | [],i,_,c,hc=>by cases hc
 | x::l,i,h,c,hc=>by
  rw [cardsF] at h
  by_cases h':cardE names hs i x=0
  · rw [if_neg (fun hh=>hh h')] at h
    rcases List.mem_cons.1 hc with rfl|hc
    · rw [cardE] at h'
      (repeat' split at h') <;> first|(exfalso;omega)|skip
      all_goals exact ⟨by omega,by omega⟩
    · exact cardsF_all h c hc
  · rw [if_pos h'] at h;exact absurd h h'
theorem heightsE_all:∀ {hs:List Int} {last:Int},heightsE last hs=0→∀ x∈hs,10≤x∧x≤999999
 | [],last,_,x,hx=>by cases hx
 | y::hs,last,h,x,hx=>by
  rw [heightsE] at h
  split at h
  · rename_i h'
    rcases List.mem_cons.1 hx with rfl|hx
    · rw [heightE] at h'
      (repeat' split at h') <;> omega
    · exact heightsE_all h x hx
  · rename_i h';exact absurd h h'
structure OkV (hs:List Int) (step:Int) (l:List Card):Prop where
 st:10≤step∧step≤1000
 hg:∀ x∈hs,10≤x∧x≤999999
 cd:∀ c∈l,formE c=0∧c.hs.length≤hs.length
theorem vc_ok {names:List Str} {hs:List Int} {step:Int} {l:List Card} (h:vcE names hs step l=0):verticalE names hs step=0∧cardsE names hs l=0∧OkV hs step l:=by
 unfold vcE at h
 by_cases hv:verticalE names hs step=0
 · rw [if_neg (fun hh=>hh hv)] at h
   refine ⟨hv,h,?_,?_,?_⟩
   · rw [verticalE] at hv
     (repeat' split at hv) <;> first|(exfalso;omega)|skip
     rw [stepE] at hv
     (repeat' split at hv) <;> omega
   · rw [verticalE] at hv
     (repeat' split at hv) <;> first|(exfalso;omega)|skip
     rename_i hh
     exact heightsE_all (Decidable.not_not.1 hh)
   · rw [cardsE] at h
     split at h
     · exact absurd h (by decide)
     · exact cardsF_all h
 · rw [if_pos hv] at h;exact absurd h hv
theorem formE_off {c:Card} (h:formE c=0):c.off.all offOk=true:=by
 rw [formE] at h
 (repeat' split at h) <;> first|(exfalso;omega)|skip
 rename_i h1 h2 h3 h4
 simpa using h4
theorem first0_mem {l:List Card} (h:firstsL l≠[]):first0 l∈l:=by
 obtain ⟨f1,f2,f3⟩:=first0_best h
 rw [first0,getElem!_pos l _ (by omega)]
 exact List.getElem_mem _
structure CSg (M:Mach):Prop where
 ft:M.FT=FT
 c48:∀ (names:List Str) (hs:List Int) step (l:List Card) c1 c2 cap h,l.length<1000→(∀ c∈l,okC c)→names.length<1000000→(∀ s∈names,s.length<1000000)→hs.length<1000000→M.ext 48 [.agg (vertC names hs step c1 c2),.vs (cardsC l) l.length cap] h=some ⟨.int .i64 (vcE names hs step l),h,[]⟩
 c88:∀ (l:List Card) cap h,l.length<1000→(∀ c∈l,okC c)→M.ext 88 [.vs (cardsC l) l.length cap] h=some ⟨.vs (ints (firstsL l)) (firstsL l).length none,h,[]⟩
structure C46 (M:Mach):Prop extends CSg M where
 c95:∀ (names:List Str) (hs:List Int) step (l:List Card) c1 c2 cap h,l.length<1000→(∀ c∈l,okC c)→OkV hs step l→firstsL l≠[]→M.ext 95 [.agg (vertC names hs step c1 c2),.vs (cardsC l) l.length cap,.int .i64 (roundsN l)] h=some ⟨.vs (ints (offHs hs step l)) (offHs hs step l).length none,h,[]⟩
def offRes (names:List Str) (hs:List Int) (step:Int) (l:List Card):AV:=
 if vcE names hs step l≠0 then .tup [.vs [] 0 none,.int .i64 (vcE names hs step l)]
 else if roundsN l=0∨(firstsL l).length=0 then .tup [.vs [] 0 none,.int .i64 7]
 else .tup [.vs (ints (offHs hs step l)) (offHs hs step l).length none,.int .i64 0]
theorem fr_nil2 {hp:Heap} {z:Int}:∃ B,Fr hp B (tupA [.nilsl,.int .i64 z]) (.tup [.vs [] 0 none,.int .i64 z]):=
 ⟨[],.tup rfl fun i x y hx hy=>by
  match i,hx,hy with
  | 0,hx,hy=>cases hx;cases hy;exact .nil (fun n hn=>by cases hn)
  | 1,hx,hy=>cases hx;cases hy;exact .same rfl⟩
set_option maxHeartbeats 1000000 in
theorem w46 (C:C46 M) (names:List Str) (hs:List Int) (step:Int) (l:List Card) (hl:l.length<1000) (hL:∀ c∈l,okC c) (hn:names.length<1000000) (hN:∀ s∈names,s.length<1000000) (hh:hs.length<1000000) :
 ∃ v hp,(∃ B,Fr hp B v (offRes names hs step l))∧Run M 46 [.agg (vertC names hs step c1 c2),.vs (cardsC l) l.length cap] [] ⟨v,hp,[]⟩:=by
 have q48:=fun h=>C.c48 names hs step l c1 c2 cap h hl hL hn hN hh
 have q88:=fun h=>C.c88 l cap h hl hL
 refine run_ofE (P:=fun v hp=>∃ B,Fr hp B v (offRes names hs step l)) (by rw [C.ft];exact ft46) (by simp) ?_
 unfold b46
 simp only [enter]
 by_cases hE:vcE names hs step l=0
 · obtain ⟨_,_,ok⟩:=vc_ok hE
   rw [offRes,if_neg (fun hh=>hh hE)]
   rw [hE] at q48
   have hR:=rounds_lt hL
   have q95:=fun h h0=>C.c95 names hs step l c1 c2 cap h hl hL ok h0
   repeat' first|apply W.seq|apply SQn|apply W.region|apply WO.nil|apply W.block|apply W.skip|(apply W.condF;rfl)|(apply WO.neq;rfl;rfl;all_goals first|(intro _;exfalso;omega)|intro _)|(apply WO.cll;rfl;rfl;first|exact q48 _)|(apply WO.hlv;rfl;rfl;rfl)|(apply WO.hpv;rfl;rfl;rfl)|(apply WO.pl;rfl;rfl)|(apply WO.pp;rfl;rfl)
   refine W.loopI l.length (fun i s=>∃ m:Nat,roundsN l=roundsF m (l.drop i)∧m<1000∧∃ a7 lo K wr,s=⟨⟨[.agg (vertC names hs step c1 c2),.vs (cardsC l) l.length cap,.ptr 0 0,.nilsl,.int .i64 0,.int .i64 0,.int .i64 m,a7,.vs (cardsC l) l.length cap,.int .i64 l.length,.int .i64 i],lo,K,[]⟩,wr⟩∧K.at 0=some (.cells (vertC names hs step c1 c2) 35)) (fun i s hi ⟨m,he,hm,a7,lo,K,wr,hs',hK⟩=>?_) (fun s ⟨m,he,hm,a7,lo,K,wr,hs',hK⟩=>?_) (Nat.zero_le _) ⟨0,by rw [List.drop_zero,roundsF_eq];omega,by omega,_,_,_,_,rfl,rfl⟩
   · subst hs'
     have e:=roundsF_drop (m:=m) hi
     rw [show l[i]! = l[((i:Int)).toNat]! from rfl] at e
     have okc:=(card_get hL hi).2.2.1
     rw [show l[i]! = l[((i:Int)).toNat]! from rfl] at okc
     unfold b46_0
     repeat' first|apply W.seq|apply SQn|apply W.region|apply WO.nil|apply W.block|apply W.skip|apply BQn|(apply W.condT;rfl)|(apply WO.lss;rfl;rfl;all_goals first|(intro _;exfalso;omega)|intro _)|(apply WO.add;rfl;rfl;omega)|(apply WO.stK;rfl;rfl;exact ⟨rfl,by first|exact Nat.le_refl _|decide|(simp [overwrite]),rfl⟩;rfl)|(apply WO.ldK;rfl;(first|exact at_new|assumption|exact at_old at_new|exact at_old (at_old at_new)|exact at_old (at_old (at_old at_new))|exact at_put (by simp)|((repeat apply at_old);assumption));rfl)|(apply WO.iav;rfl;rfl;omega)|(apply WO.lda;rfl;exact fun _=>rfl;(first|omega|(simp only [List.length_set];omega)|(simp;omega));decide;rfl;case ia=>infer_instance)|(apply WO.hpv;rfl;rfl;rfl)|(apply WO.pl;rfl;rfl)|(apply WO.pp;rfl;rfl)
     exact LIn ⟨_,he.trans e,by omega,_,_,_,_,by rw [← mxN_eq];rfl,at_old hK⟩
   · subst hs'
     rw [List.drop_length,roundsF] at he
     subst he
     unfold b46_0
     by_cases h0:(firstsL l).length=0
     · rw [if_pos (.inr h0)]
       repeat' first|apply W.seq|apply SQn|apply W.region|apply WO.nil|apply W.ret|apply W.exit|apply SQr|apply SQe|apply BQe|apply LIe|(apply W.condT;rfl)|(apply W.condF;rfl)|(apply WO.gF;rfl)|(apply WO.sF;rfl)|(apply WO.lss;rfl;rfl;all_goals first|(intro _;exfalso;omega)|intro _)|(apply WO.eql;rfl;rfl;all_goals first|(intro _;exfalso;omega)|intro _)|(apply WO.pkT;rfl;rfl)|(apply WO.pkF;rfl;rfl)|(apply WO.cll;rfl;rfl;first|exact q88 _)|(apply WO.pl;rfl;rfl)|(apply WO.pp;rfl;rfl)
       all_goals first|(exfalso;omega)|exact ⟨.inr rfl,rfl,_,rfl,fr_nil2⟩
     · have h0':firstsL l≠[]:=fun h=>h0 (by rw [h];rfl)
       have q95':=fun h=>q95 h h0'
       by_cases hr:roundsN l=0
       · rw [if_pos (.inl hr)]
         repeat' first|apply W.seq|apply SQn|apply W.region|apply WO.nil|apply W.ret|apply W.exit|apply SQr|apply SQe|apply BQe|apply LIe|(apply W.condT;rfl)|(apply W.condF;rfl)|(apply WO.sF;rfl)|(apply WO.lss;rfl;rfl;all_goals first|(intro _;exfalso;omega)|intro _)|(apply WO.eql;rfl;rfl;all_goals first|(intro _;exfalso;omega)|intro _)|(apply WO.pkT;rfl;rfl)|(apply WO.pl;rfl;rfl)|(apply WO.pp;rfl;rfl)
         all_goals first|(exfalso;omega)|exact ⟨.inr rfl,rfl,_,rfl,fr_nil2⟩
       · rw [if_neg (by omega)]
         repeat' first|apply W.seq|apply SQn|apply W.region|apply WO.nil|apply W.ret|apply W.exit|apply W.skip|apply SQe|apply BQe|apply LIe|(apply W.condF;rfl)|(apply WO.gF;rfl)|(apply WO.lss;rfl;rfl;all_goals first|(intro _;exfalso;omega)|intro _)|(apply WO.eql;rfl;rfl;all_goals first|(intro _;exfalso;omega)|intro _)|(apply WO.pkF;rfl;rfl)|(apply WO.cll;rfl;rfl;first|exact q88 _|exact q95' _)|(apply WO.ldK;rfl;exact hK;rfl)|(apply WO.pl;rfl;rfl)|(apply WO.pp;rfl;rfl)
         all_goals first|(exfalso;omega)|exact ⟨.inr rfl,rfl,_,rfl,[],.same (by show topL [_,_]=0;simp only [topL,AV.top];rw [show topL (ints (offHs hs step l))=0 from topL_arr (f:=inC) (fun _=>rfl) _];rfl)⟩
 · rw [offRes,if_pos hE]
   generalize vcE names hs step l=E at *
   repeat' first|apply W.seq|apply SQn|apply W.region|apply WO.nil|apply W.ret|apply SQr|(apply W.condT;rfl)|(apply WO.neq;rfl;rfl;all_goals first|(intro _;exfalso;omega)|intro _)|(apply WO.cll;rfl;rfl;first|exact q48 _)|(apply WO.hlv;rfl;rfl;rfl)|(apply WO.hpv;rfl;rfl;rfl)|(apply WO.pl;rfl;rfl)|(apply WO.pp;rfl;rfl)
   all_goals first|contradiction|exact ⟨.inr rfl,rfl,_,rfl,fr_nil2⟩
end Go.Ab.Ch6

/-
  Own work: chapter 6: cards, by the program: Standing.
-/
namespace Go.Ab.Ch6
open Go.Ab.Sort
variable {M:Mach} {cap c1 c2:Option Nat}
theorem offG_self {a:Card}:∀ {r i:Nat},offG a a r i=0
 | 0,i=>by rw [offG,offT,if_pos rfl]
 | r+1,i=>by rw [offG,if_neg (fun h=>h rfl)];exact offG_self
theorem higher_self {a:Card}:higherI a a=0:=by
 unfold higherI cmpR
 simp
theorem beats_self {l:List Card} {i:Int} {c:Card}:beats l i c c=false:=by
 have:aheadI l i c c=0:=by
  unfold aheadI
  split
  · exact offG_self
  · exact higher_self
 rw [beats,this]
 simp
theorem rank_le {l:List Card} {i:Nat} (hi:i<l.length):rankS l i l[i]! ≤ l.length:=by
 have hm:l[i]! ∈ l:=by rw [getElem!_pos l i hi];exact List.getElem_mem hi
 have h1:l.countP (beats l i l[i]!)≤l.length:=List.countP_le_length
 have h2:l.countP (beats l i l[i]!)≠l.length:=fun h=>by
  have:=(List.countP_eq_length.1 h) _ hm
  rw [beats_self] at this
  cases this
 unfold rankS
 omega
theorem standS_rank {hs:List Int} {l:List Card}:∀ p∈standS hs l,0≤p.rank∧p.rank≤(standS hs l).length:=fun p hp=>by
 obtain ⟨i,hi,rfl⟩:=List.mem_iff_getElem.1 hp
 have hi':i<l.length:=by rw [standS_len] at hi;exact hi
 have e:=standS_get (hs:=hs) hi'
 rw [getElem!_pos _ i hi] at e
 rw [e,standS_len]
 have:=rank_le hi'
 unfold placeS
 split
 · exact ⟨by show (0:Int)≤((rankS l i l[i]! : Nat):Int);omega,by show ((rankS l i l[i]! : Nat):Int)≤_;omega⟩
 · exact ⟨Int.le_refl _,by show (0:Int)≤_;omega⟩
structure C44 (M:Mach):Prop extends CRo M where
 c89:∀ st ret h,M.ext 89 [.bool st,.bool ret] h=some ⟨.agg (markC sNone 0 (noWhy (!st) ret)),h,[]⟩
 c48:∀ (names:List Str) (hs:List Int) step (l:List Card) c1 c2 cap h,l.length<1000→(∀ c∈l,okC c)→names.length<1000000→(∀ s∈names,s.length<1000000)→hs.length<1000000→M.ext 48 [.agg (vertC names hs step c1 c2),.vs (cardsC l) l.length cap] h=some ⟨.int .i64 (vcE names hs step l),h,[]⟩
 c88:∀ (l:List Card) cap h,l.length<1000→(∀ c∈l,okC c)→M.ext 88 [.vs (cardsC l) l.length cap] h=some ⟨.vs (ints (firstsL l)) (firstsL l).length none,h,[]⟩
 c90:∀ (c:Card) h,okC c→M.ext 90 [.agg (cardC c)] h=some ⟨.int .i64 (bestI c),h,[]⟩
 c91:∀ (a b:Card) h,okC a→okC b→0≤bestI a→0≤bestI b→M.ext 91 [.agg (cardC a),.agg (cardC b)] h=some ⟨.int .i64 (higherI a b),h,[]⟩
 c92:∀ (l:List Int) (x:Int) h,l.length<1000000→M.ext 92 [.vs (ints l) l.length none,.int .i64 x] h=some ⟨.bool (decide (x∈l)),h,[]⟩
 c93:∀ (a b:Card) h,okC a→okC b→a.off.all offOk=true→b.off.all offOk=true→M.ext 93 [.agg (cardC a),.agg (cardC b)] h=some ⟨.int .i64 (offI a b),h,[]⟩
def standRes (names:List Str) (hs:List Int) (step:Int) (l:List Card):AV:=
 if vcE names hs step l≠0 then .tup [.vs [] 0 none,.int .i64 (vcE names hs step l)]
 else .tup [.vs (placesC (orderP (standS hs l))) (orderP (standS hs l)).length none,.int .i64 0]
theorem loop44_0 (C:C44 M) (A0 A13 A14:AV) (l:List Card) (hl:l.length<1000) (hL:∀ c∈l,okC c) (hO:∀ c∈l,c.off.all offOk=true) (i:Nat) (hi:i<l.length) (pc:0≤bestI l[((i:Int)).toNat]!) (o:AV) (w k y:Str) (v:Int) (K:Heap) (b9:Nat) (h9:b9<K.length) (k9:K.at b9=some (.cells (cardC l[((i:Int)).toNat]!) 124)) (ho:∃ acc:List Place,OutE placeC 5 116 K o acc [0]) {Q:Ex→StW→Prop} (a5 a11 a12:AV) (lo:List (Nat×AV)) (wr:List Nat)
 (hQ:∀ a11 a12 lo wr J,Q (.exit 2) ⟨⟨[A0,.vs (cardsC l) l.length cap,.ptr 0 0,.nilsl,.int .i64 0,a5,.vs (ints (firstsL l)) (firstsL l).length none,o,.int .i64 i,.ptr b9 0,.ptr K.length 0,a11,a12,A13,A14,.int .i64 i,.vs (cardsC l) l.length cap,.int .i64 l.length,.int .i64 l.length],lo,(K++[some (.cells (placeC ⟨w,rankS l i l[((i:Int)).toNat]!,k,v,y⟩) 116)])++J,[]⟩,wr⟩) :
 W M (.loop b44_0) ⟨⟨[A0,.vs (cardsC l) l.length cap,.ptr 0 0,.nilsl,.int .i64 0,a5,.vs (ints (firstsL l)) (firstsL l).length none,o,.int .i64 i,.ptr b9 0,.ptr K.length 0,a11,a12,A13,A14,.int .i64 i,.vs (cardsC l) l.length cap,.int .i64 l.length,.int .i64 0],lo,K++[some (.cells (placeC ⟨w,1,k,v,y⟩) 116)],[]⟩,wr⟩ Q:=by
 obtain ⟨c,hc⟩:∃ c,c=l[((i:Int)).toNat]! := ⟨_,rfl⟩
 have okc:okC c:=by rw [hc];exact card_get hL hi
 have hOc:c.off.all offOk=true:=by rw [hc];exact hO _ (by rw [Int.toNat_natCast,getElem!_pos l i hi];exact List.getElem_mem hi)
 have q92:=fun h=>C.c92 (firstsL l) i h (by have:=firsts_len (l:=l);omega)
 rw [← hc] at k9 pc hQ
 refine W.loopI l.length (fun n s=>∃ a11 a12 lo wr J,s=⟨⟨[A0,.vs (cardsC l) l.length cap,.ptr 0 0,.nilsl,.int .i64 0,a5,.vs (ints (firstsL l)) (firstsL l).length none,o,.int .i64 i,.ptr b9 0,.ptr K.length 0,a11,a12,A13,A14,.int .i64 i,.vs (cardsC l) l.length cap,.int .i64 l.length,.int .i64 n],lo,(K++[some (.cells (placeC ⟨w,((1+(l.take n).countP (beats l i c):Nat):Int),k,v,y⟩) 116)])++J,[]⟩,wr⟩) (fun n s hn ⟨a11,a12,lo,wr,J,hs⟩=>?_) (fun s ⟨a11,a12,lo,wr,J,hs⟩=>?_) (Nat.zero_le _) ⟨_,_,_,_,[],by rw [List.append_nil];rfl⟩
 · subst hs
   have es:=count_take (p:=beats l i c) hn
   rw [show l[n]! = l[((n:Int)).toNat]! from rfl] at es
   have hcl:(l.take n).countP (beats l i c)≤n:=Nat.le_trans List.countP_le_length (by rw [List.length_take];exact Nat.min_le_left _ _)
   have okn:okC l[((n:Int)).toNat]! := card_get hL hn
   have hOn:(l[((n:Int)).toNat]!).off.all offOk=true:=hO _ (by rw [Int.toNat_natCast,getElem!_pos l n hn];exact List.getElem_mem hn)
   have q90:=fun h=>C.c90 l[((n:Int)).toNat]! h okn
   have bnd : -9223372036854775808≤((1+(l.take n).countP (beats l i c):Nat):Int)+1∧((1+(l.take n).countP (beats l i c):Nat):Int)+1<9223372036854775808:=by omega
   obtain ⟨R,hR⟩:∃ R:Int,R=((1+(l.take n).countP (beats l i c):Nat):Int):=⟨_,rfl⟩
   rw [← hR] at bnd
   have kP:∀ x,Heap.at ((K++[some (.cells (placeC ⟨w,R,k,v,y⟩) 116)])++J++[x]) K.length=some (.cells (placeC ⟨w,R,k,v,y⟩) 116):=fun x=>at_old (at_old at_new)
   have kC:∀ x,Heap.at ((K++[some (.cells (placeC ⟨w,R,k,v,y⟩) 116)])++J++[x]) b9=some (.cells (cardC c) 124):=fun x=>at_old (at_old (at_old k9))
   have ePut:∀ x z,Heap.put ((K++[some (.cells (placeC ⟨w,R,k,v,y⟩) 116)])++J++[x]) K.length (some (.cells (placeC ⟨w,z,k,v,y⟩) 116))=(K++[some (.cells (placeC ⟨w,z,k,v,y⟩) 116)])++(J++[x]):=fun x z=>by
    rw [List.append_assoc,List.append_assoc]
    simp [Heap.put]
   have fin:∀ (R':Int) (x:Option Blk) a11 a12 lo wr h,R'=((1+(l.take (n+1)).countP (beats l i c):Nat):Int)→h=(K++[some (.cells (placeC ⟨w,R',k,v,y⟩) 116)])++(J++[x]) →
    ∃ a11' a12' lo' wr' J',(⟨⟨[A0,.vs (cardsC l) l.length cap,.ptr 0 0,.nilsl,.int .i64 0,a5,.vs (ints (firstsL l)) (firstsL l).length none,o,.int .i64 i,.ptr b9 0,.ptr K.length 0,a11,a12,A13,A14,.int .i64 i,.vs (cardsC l) l.length cap,.int .i64 l.length,.int .i64 ((n:Int)+1)],lo,h,[]⟩,wr⟩:StW)
     = ⟨⟨[A0,.vs (cardsC l) l.length cap,.ptr 0 0,.nilsl,.int .i64 0,a5,.vs (ints (firstsL l)) (firstsL l).length none,o,.int .i64 i,.ptr b9 0,.ptr K.length 0,a11',a12',A13,A14,.int .i64 i,.vs (cardsC l) l.length cap,.int .i64 l.length,.int .i64 ((n+1:Nat):Int)],lo',(K++[some (.cells (placeC ⟨w,((1+(l.take (n+1)).countP (beats l i c):Nat):Int),k,v,y⟩) 116)])++J',[]⟩,wr'⟩:=fun R' x a11 a12 lo wr h h1 h2=>⟨a11,a12,lo,wr,J++[x],by rw [← h1,h2];rfl⟩
   rw [← hR]
   unfold b44_0
   by_cases hb:0≤bestI l[((n:Int)).toNat]!
   · have q91:=fun h=>C.c91 l[((n:Int)).toNat]! c h okn okc hb pc
     have q93:=fun h=>C.c93 l[((n:Int)).toNat]! c h okn okc hOn hOc
     have hA:aheadI l i c l[((n:Int)).toNat]! = if higherI l[((n:Int)).toNat]! c=0∧(i:Int)∈firstsL l then offI l[((n:Int)).toNat]! c else higherI l[((n:Int)).toNat]! c:=rfl
     generalize higherI l[((n:Int)).toNat]! c=x at *
     generalize offI l[((n:Int)).toNat]! c=y' at *
     by_cases hx:x=0 <;> by_cases hm:(i:Int)∈firstsL l <;> by_cases ea:0<aheadI l i c l[((n:Int)).toNat]! <;> skip
     all_goals
      have ea2:=ea
      rw [hA] at ea2
      simp only [hx,hm,true_and,false_and,and_true,and_false,if_true,if_false] at ea2
      have eb:beats l i c l[((n:Int)).toNat]! = decide (0<aheadI l i c l[((n:Int)).toNat]!):=by
       rw [beats,decide_eq_true hb,Bool.true_and]
      simp only [ea,decide_true,decide_false] at eb
      rw [eb] at es
      simp only [hm,decide_true,decide_false] at q92
      repeat' first|(apply WO.cll;rfl;rfl;first|exact q91 _|exact q93 _)|(apply WO.ldK;rfl;(first|exact kP _|exact kC _|exact at_new);rfl)|(apply WO.stj;rfl;rfl;exact kP _;exact ⟨rfl,by simp [placeC],rfl⟩;rfl)|(apply WO.add;rfl;rfl;exact bnd)|apply W.seq|apply SQn|apply W.region|apply WO.nil|apply W.block|apply W.skip|apply BQn|(apply W.condT;rfl)|(apply W.condF;rfl)|(apply WO.gT;rfl)|(apply WO.sT;rfl)|(apply WO.lss;rfl;rfl;all_goals first|(intro _;exfalso;omega)|intro _)|(apply WO.gtr;rfl;rfl;all_goals first|(intro _;exfalso;omega)|intro _)|(apply WO.eql;rfl;rfl;all_goals first|(intro _;exfalso;omega)|intro _)|(apply WO.pkT;rfl;rfl)|(apply WO.pkF;rfl;rfl)|(apply WO.add;rfl;rfl;omega)|(apply WO.cll;rfl;rfl;first|exact q90 _|exact q92 _)|(apply WO.stK;rfl;rfl;exact ⟨rfl,by first|exact Nat.le_refl _|decide|(simp [overwrite]),rfl⟩;rfl)|(apply WO.iav;rfl;rfl;omega)|(apply WO.lda;rfl;exact fun _=>rfl;(first|omega|(simp only [List.length_set];omega)|(simp;omega));decide;rfl;case ia=>infer_instance)|(apply WO.hpv;rfl;rfl;rfl)|(apply WO.pl;rfl;rfl)|(apply WO.pp;rfl;rfl)
      all_goals first|contradiction|(exfalso;omega)|skip
      all_goals first
       | exact LIn (fin R _ _ _ _ _ _ (by rw [es,if_neg (by decide)];omega) (List.append_assoc _ _ _))
       | exact LIn (fin (R+1) _ _ _ _ _ _ (by rw [es,if_pos rfl];omega) (ePut _ (R+1)))
   · have eb:beats l i c l[((n:Int)).toNat]! = false:=by rw [beats,decide_eq_false hb,Bool.false_and]
     rw [eb,if_neg (by decide),Nat.add_zero] at es
     repeat' first|apply W.seq|apply SQn|apply W.region|apply WO.nil|apply W.block|apply W.exit|apply W.skip|apply SQe|apply BQe|(apply W.condT;rfl)|(apply WO.lss;rfl;rfl;all_goals first|(intro _;exfalso;omega)|intro _)|(apply WO.add;rfl;rfl;omega)|(apply WO.cll;rfl;rfl;first|exact q90 _)|(apply WO.stK;rfl;rfl;exact ⟨rfl,by first|exact Nat.le_refl _|decide|(simp [overwrite]),rfl⟩;rfl)|(apply WO.ldK;rfl;(first|exact at_new|assumption|exact at_old at_new|exact at_old (at_old at_new)|exact at_old (at_old (at_old at_new))|exact at_put (by simp)|((repeat apply at_old);assumption));rfl)|(apply WO.iav;rfl;rfl;omega)|(apply WO.lda;rfl;exact fun _=>rfl;(first|omega|(simp only [List.length_set];omega)|(simp;omega));decide;rfl;case ia=>infer_instance)|(apply WO.hpv;rfl;rfl;rfl)|(apply WO.pp;rfl;rfl)
     all_goals first|(exfalso;omega)|skip
     all_goals exact LIn (fin R _ _ _ _ _ _ (by rw [es];omega) (List.append_assoc _ _ _))
 · subst hs
   rw [List.take_length]
   unfold b44_0
   repeat' first|apply W.seq|apply SQn|apply W.region|apply WO.nil|apply W.exit|apply SQe|apply LIe|(apply W.condF;rfl)|(apply WO.lss;rfl;rfl;all_goals first|(intro _;exfalso;omega)|intro _)
   exact hQ _ _ _ _ _
theorem order_lenS {P:List Place} (hr:∀ p∈P,0≤p.rank∧p.rank≤P.length):(orderP P).length=P.length:=by
 rw [← orderI_map,List.length_map,← order_perm hr,numsTo_length]
set_option maxHeartbeats 2000000 in
theorem w44 (C:C44 M) (names:List Str) (hs:List Int) (step:Int) (l:List Card) (hl:l.length<1000) (hL:∀ c∈l,okC c) (hn:names.length<1000000) (hN:∀ s∈names,s.length<1000000) (hh:hs.length<1000000) :
 ∃ v hp,(∃ B,Fr hp B v (standRes names hs step l))∧Run M 44 [.agg (vertC names hs step c1 c2),.vs (cardsC l) l.length cap] [] ⟨v,hp,[]⟩:=by
 have q48:=fun h=>C.c48 names hs step l c1 c2 cap h hl hL hn hN hh
 have q88:=fun h=>C.c88 l cap h hl hL
 refine run_ofE (P:=fun v hp=>∃ B,Fr hp B v (standRes names hs step l)) (by rw [C.ft];exact ft44) (by simp) ?_
 unfold b44
 simp only [enter]
 by_cases hE:vcE names hs step l=0
 · obtain ⟨_,_,ok⟩:=vc_ok hE
   have hO:∀ c∈l,c.off.all offOk=true:=fun c hc=>formE_off (ok.cd c hc).1
   rw [standRes,if_neg (fun hh=>hh hE)]
   rw [hE] at q48
   repeat' first|apply W.seq|apply SQn|apply W.region|apply WO.nil|apply W.block|apply W.skip|(apply W.condF;rfl)|(apply WO.neq;rfl;rfl;all_goals first|(intro _;exfalso;omega)|intro _)|(apply WO.cll;rfl;rfl;first|exact q48 _|exact q88 _)|(apply WO.hlv;rfl;rfl;rfl)|(apply WO.hpv;rfl;rfl;rfl)|(apply WO.pl;rfl;rfl)|(apply WO.pp;rfl;rfl)
   refine W.loopI l.length (fun i s=>∃ o a5 a8 a9 a10 a11 a12 a16 a17 a18 lo K wr,s=⟨⟨[.agg (vertC names hs step c1 c2),.vs (cardsC l) l.length cap,.ptr 0 0,.nilsl,.int .i64 0,a5,.vs (ints (firstsL l)) (firstsL l).length none,o,a8,a9,a10,a11,a12,.vs (cardsC l) l.length cap,.int .i64 l.length,.int .i64 i,a16,a17,a18],lo,K,[]⟩,wr⟩∧OutE placeC 5 116 K o ((standS hs l).take i) [0]∧K.at 0=some (.cells (vertC names hs step c1 c2) 35)) (fun i s hi ⟨o,a5,a8,a9,a10,a11,a12,a16,a17,a18,lo,K,wr,hs',ho,hK⟩=>?_) (fun s ⟨o,a5,a8,a9,a10,a11,a12,a16,a17,a18,lo,K,wr,hs',ho,hK⟩=>?_) (Nat.zero_le _) ⟨_,_,_,_,_,_,_,_,_,_,_,_,_,rfl,.ofNil,rfl⟩
   · subst hs'
     have hpl:i<(standS hs l).length:=by rw [standS_len];exact hi
     have e:=take_snoc' hpl
     rw [standS_get hi,show l[i]! = l[((i:Int)).toNat]! from rfl] at e
     have okc:=card_get hL hi
     rw [show l[i]! = l[((i:Int)).toNat]! from rfl] at okc
     have hm:l[((i:Int)).toNat]! ∈ l:=by rw [Int.toNat_natCast,getElem!_pos l i hi];exact List.getElem_mem hi
     have hlh:=(ok.cd _ hm).2
     have hbl:=(bestI_lt l[((i:Int)).toNat]!).2
     have q90:=fun h=>C.c90 l[((i:Int)).toNat]! h okc
     have room:((((standS hs l).take i).length+1)*64≤roomLimit):=by rw [List.length_take];unfold roomLimit;omega
     have hK0:=at_lt hK
     unfold b44_1
     by_cases pb:0≤bestI l[((i:Int)).toNat]!
     · have e1:placeS hs l i l[((i:Int)).toNat]! = ⟨(l[((i:Int)).toNat]!).who,rankS l i l[((i:Int)).toNat]!,sLength,hs[(bestI l[((i:Int)).toNat]!).toNat]!,[]⟩:=by rw [placeS,if_pos pb]
       have hlen:¬ (l[((i:Int)).toNat]!).hs.length=0:=by omega
       have q89:=fun h=>C.c89 true (l[((i:Int)).toNat]!).ret h
       repeat' first|(apply WO.cll;rfl;rfl;first|exact q89 _|exact q90 _)|(apply WD.cl0;rfl;rfl;(first|(simp only [List.nil_append,List.cons_append];rfl)|rfl);first|exact q89 _|exact q90 _)|(apply WD.store1;rfl;(first|(simp only [List.nil_append,List.cons_append];rfl)|rfl);(simp [disj,blkOf] <;> omega))|(apply WO.stKj;rfl;rfl;exact ⟨rfl,by simp [overwrite,markC],rfl⟩;rfl)|apply W.seq|apply SQn|apply W.region|apply WO.nil|apply W.block|apply W.skip|apply W.draw|apply WD.nil|(apply WD.pure1;rfl)|(apply WD.load1;rfl;rfl;(first|(simp only [List.nil_append,List.cons_append];rfl)|rfl))|(apply WD.new1;rfl)|(apply W.condT;rfl)|(apply WO.lss;rfl;rfl;all_goals first|(intro _;exfalso;omega)|intro _)|(apply WO.gtr;rfl;rfl;all_goals first|(intro _;exfalso;omega)|intro _)|(apply WO.geq;rfl;rfl;all_goals first|(intro _;exfalso;omega)|intro _)|(apply WO.stK;rfl;rfl;exact ⟨rfl,by first|exact Nat.le_refl _|decide|(simp [overwrite]),rfl⟩;rfl)|(apply WO.ldK;rfl;(first|exact at_new|assumption|exact at_old at_new|exact at_old (at_old at_new)|exact at_old (at_old (at_old at_new))|exact at_put (by simp)|((repeat apply at_old);assumption));rfl)|(apply WO.iav;rfl;rfl;omega)|(apply WO.lda;rfl;exact fun _=>rfl;(first|omega|(simp only [List.length_set];omega)|(simp;omega));decide;rfl;case ia=>infer_instance)|(apply WO.hpv;rfl;rfl;rfl)|(apply WO.pl;rfl;rfl)|(apply WO.pp;rfl;rfl)
       all_goals first|contradiction|(exfalso;omega)|skip
       refine loop44_0 C _ _ _ l hl hL hO i hi pb o (l[((i:Int)).toNat]!).who sLength [] hs[(bestI l[((i:Int)).toNat]!).toNat]! (K++[some (Blk.cells (cardC l[((i:Int)).toNat]!) 124)]) K.length (by simp) at_new ⟨_,ho.grow [_]⟩ _ _ _ _ _ (fun a11 a12 lo wr J=>?_)
       have kP:Heap.at ((K++[some (Blk.cells (cardC l[((i:Int)).toNat]!) 124)])++[some (Blk.cells (placeC ⟨(l[((i:Int)).toNat]!).who,rankS l i l[((i:Int)).toNat]!,sLength,hs[(bestI l[((i:Int)).toNat]!).toNat]!,[]⟩) 116)]++J) (K++[some (Blk.cells (cardC l[((i:Int)).toNat]!) 124)]).length=some (.cells (placeC ⟨(l[((i:Int)).toNat]!).who,rankS l i l[((i:Int)).toNat]!,sLength,hs[(bestI l[((i:Int)).toNat]!).toNat]!,[]⟩) 116):=at_old at_new
       repeat' first|(apply WO.ldK;rfl;exact kP;rfl)|apply SQn|apply W.region|apply BQe|(apply WO.hlv;rfl;rfl;rfl)|(apply WO.pl;rfl;rfl)
       refine OutE.app (f:=placeC) (m:=[⟨(l[((i:Int)).toNat]!).who,rankS l i l[((i:Int)).toNat]!,sLength,hs[(bestI l[((i:Int)).toNat]!).toNat]!,[]⟩]) (S:=[0]) (fun _=>rfl) (fun _=>rfl) (by decide) ((((ho.grow [_]).grow [_]).grow J).grow [_]) (by simp;omega) rfl rfl (Sl.ofAt (f:=placeC) (esz:=5) (l:=[⟨(l[((i:Int)).toNat]!).who,rankS l i l[((i:Int)).toNat]!,sLength,hs[(bestI l[((i:Int)).toNat]!).toNat]!,[]⟩]) (e:=116) (fun _=>rfl) at_new rfl) room (fun H w' o' ho' hk hlen=>?_)
       repeat' first|apply SQn|apply W.region|apply WO.nil|apply BQn|(apply WO.add;rfl;rfl;omega)|(apply WO.pp;rfl;rfl)
       exact LIn ⟨_,_,_,_,_,_,_,_,_,_,_,_,_,rfl,by rw [e,e1];exact ho',hk _ _ (by simp) (at_old (at_old (at_old (at_old hK))))⟩
     · have e1:placeS hs l i l[((i:Int)).toNat]! = ⟨(l[((i:Int)).toNat]!).who,0,sNone,0,noWhy (decide ((l[((i:Int)).toNat]!).hs.length=0)) (l[((i:Int)).toNat]!).ret⟩:=by rw [placeS,if_neg pb]
       by_cases hlen:(l[((i:Int)).toNat]!).hs.length=0
       · have q89:=fun h=>C.c89 false (l[((i:Int)).toNat]!).ret h
         rw [decide_eq_true hlen] at e1
         repeat' first|(apply WO.cll;rfl;rfl;first|exact q89 _|exact q90 _)|(apply WD.cl0;rfl;rfl;(first|(simp only [List.nil_append,List.cons_append];rfl)|rfl);first|exact q89 _|exact q90 _)|apply W.seq|apply SQn|apply W.region|apply WO.nil|apply W.block|apply W.skip|apply W.draw|apply WD.nil|(apply WD.pure1;rfl)|(apply WD.load1;rfl;rfl;(first|(simp only [List.nil_append,List.cons_append];rfl)|rfl))|(apply WD.store1;rfl;(first|(simp only [List.nil_append,List.cons_append];rfl)|rfl);(first|(simp only [List.nil_append,List.cons_append];rfl)|rfl))|(apply WD.new1;rfl)|(apply W.condT;rfl)|(apply W.condF;rfl)|(apply WO.lss;rfl;rfl;all_goals first|(intro _;exfalso;omega)|intro _)|(apply WO.gtr;rfl;rfl;all_goals first|(intro _;exfalso;omega)|intro _)|(apply WO.geq;rfl;rfl;all_goals first|(intro _;exfalso;omega)|intro _)|(apply WO.stK;rfl;rfl;exact ⟨rfl,by first|exact Nat.le_refl _|decide|(simp [overwrite]),rfl⟩;rfl)|(apply WO.ldK;rfl;(first|exact at_new|assumption|exact at_old at_new|exact at_old (at_old at_new)|exact at_old (at_old (at_old at_new))|exact at_put (by simp)|((repeat apply at_old);assumption));rfl)|(apply WO.iav;rfl;rfl;omega)|(apply WO.lda;rfl;exact fun _=>rfl;(first|omega|(simp only [List.length_set];omega)|(simp;omega));decide;rfl;case ia=>infer_instance)|(apply WO.hlv;rfl;rfl;rfl)|(apply WO.hpv;rfl;rfl;rfl)|(apply WO.pl;rfl;rfl)|(apply WO.pp;rfl;rfl)
         all_goals first|contradiction|(exfalso;omega)|skip
         refine OutE.app (f:=placeC) (m:=[⟨(l[((i:Int)).toNat]!).who,0,sNone,0,noWhy true (l[((i:Int)).toNat]!).ret⟩]) (S:=[0]) (fun _=>rfl) (fun _=>rfl) (by decide) (((ho.grow [_]).grow [_]).grow [_]) (by simp) rfl rfl (Sl.ofAt (f:=placeC) (esz:=5) (l:=[⟨(l[((i:Int)).toNat]!).who,0,sNone,0,noWhy true (l[((i:Int)).toNat]!).ret⟩]) (e:=116) (fun _=>rfl) at_new rfl) room (fun H w' o' ho' hk hlen=>?_)
         repeat' first|apply SQn|apply W.region|apply WO.nil|apply BQn|(apply WO.add;rfl;rfl;omega)|(apply WO.pp;rfl;rfl)
         exact LIn ⟨_,_,_,_,_,_,_,_,_,_,_,_,_,rfl,by rw [e,e1];exact ho',hk _ _ (by simp) (at_old (at_old (at_old hK)))⟩
       · have q89:=fun h=>C.c89 true (l[((i:Int)).toNat]!).ret h
         rw [decide_eq_false hlen] at e1
         repeat' first|(apply WO.cll;rfl;rfl;first|exact q89 _|exact q90 _)|(apply WD.cl0;rfl;rfl;(first|(simp only [List.nil_append,List.cons_append];rfl)|rfl);first|exact q89 _|exact q90 _)|apply W.seq|apply SQn|apply W.region|apply WO.nil|apply W.block|apply W.skip|apply W.draw|apply WD.nil|(apply WD.pure1;rfl)|(apply WD.load1;rfl;rfl;(first|(simp only [List.nil_append,List.cons_append];rfl)|rfl))|(apply WD.store1;rfl;(first|(simp only [List.nil_append,List.cons_append];rfl)|rfl);(first|(simp only [List.nil_append,List.cons_append];rfl)|rfl))|(apply WD.new1;rfl)|(apply W.condT;rfl)|(apply W.condF;rfl)|(apply WO.lss;rfl;rfl;all_goals first|(intro _;exfalso;omega)|intro _)|(apply WO.gtr;rfl;rfl;all_goals first|(intro _;exfalso;omega)|intro _)|(apply WO.geq;rfl;rfl;all_goals first|(intro _;exfalso;omega)|intro _)|(apply WO.stK;rfl;rfl;exact ⟨rfl,by first|exact Nat.le_refl _|decide|(simp [overwrite]),rfl⟩;rfl)|(apply WO.ldK;rfl;(first|exact at_new|assumption|exact at_old at_new|exact at_old (at_old at_new)|exact at_old (at_old (at_old at_new))|exact at_put (by simp)|((repeat apply at_old);assumption));rfl)|(apply WO.iav;rfl;rfl;omega)|(apply WO.lda;rfl;exact fun _=>rfl;(first|omega|(simp only [List.length_set];omega)|(simp;omega));decide;rfl;case ia=>infer_instance)|(apply WO.hlv;rfl;rfl;rfl)|(apply WO.hpv;rfl;rfl;rfl)|(apply WO.pl;rfl;rfl)|(apply WO.pp;rfl;rfl)
         all_goals first|contradiction|(exfalso;omega)|skip
         refine OutE.app (f:=placeC) (m:=[⟨(l[((i:Int)).toNat]!).who,0,sNone,0,noWhy false (l[((i:Int)).toNat]!).ret⟩]) (S:=[0]) (fun _=>rfl) (fun _=>rfl) (by decide) (((ho.grow [_]).grow [_]).grow [_]) (by simp) rfl rfl (Sl.ofAt (f:=placeC) (esz:=5) (l:=[⟨(l[((i:Int)).toNat]!).who,0,sNone,0,noWhy false (l[((i:Int)).toNat]!).ret⟩]) (e:=116) (fun _=>rfl) at_new rfl) room (fun H w' o' ho' hk hlen=>?_)
         repeat' first|apply SQn|apply W.region|apply WO.nil|apply BQn|(apply WO.add;rfl;rfl;omega)|(apply WO.pp;rfl;rfl)
         exact LIn ⟨_,_,_,_,_,_,_,_,_,_,_,_,_,rfl,by rw [e,e1];exact ho',hk _ _ (by simp) (at_old (at_old (at_old hK)))⟩
   · subst hs'
     have hO2:=order_lenS (standS_rank (hs:=hs) (l:=l))
     rw [← standS_len hs l,List.take_length] at ho
     unfold b44_1
     rcases ho with ⟨hq1,rfl⟩|⟨c,cp,hc,rfl,hat,hcap⟩
     · have q94:=e94 C.toCRo K
       repeat' first|apply W.seq|apply SQn|apply W.region|apply WO.nil|apply W.ret|apply W.exit|apply SQe|apply BQe|apply LIe|(apply W.condF;rfl)|(apply WO.lss;rfl;rfl;all_goals first|(intro _;exfalso;omega)|intro _)|(apply WO.ct;rfl;rfl;first|exact q94)|(apply WO.pl;rfl;rfl)|(apply WO.pp;rfl;rfl)
       refine ⟨.inr rfl,rfl,_,rfl,?_⟩
       rw [hq1]
       exact fr_nil2
     · obtain ⟨wr',hw',hct⟩:=s94 C.toCRo (at_lt hat) (standS hs l) (by rw [standS_len];omega) standS_rank cp
       rw [put_self (o:=.cells (placesC (standS hs l)) 116) hat] at hct
       repeat' first|apply W.seq|apply SQn|apply W.region|apply WO.nil|apply W.ret|apply W.exit|apply SQe|apply BQe|apply LIe|(apply W.condF;rfl)|(apply WO.lss;rfl;rfl;all_goals first|(intro _;exfalso;omega)|intro _)|(apply WO.ct;rfl;rfl;first|exact hct)|(apply WO.pl;rfl;rfl)|(apply WO.pp;rfl;rfl)
       refine ⟨.inr rfl,rfl,_,rfl,?_⟩
       have hb2:Heap.at (K.put c (some (.cells (placesC (orderP (standS hs l))) 116))) c=some (.cells (placesC (orderP (standS hs l))) 116):=at_put (at_lt hat)
       rw [← hO2]
       refine ⟨[c],.tup rfl fun i x y hx hy=>?_⟩
       match i,hx,hy with
       | 0,hx,hy=>cases hx;cases hy;exact frz_cells (f:=placeC) (esz:=5) (e:=116) (fun _=>rfl) (fun _=>rfl) hb2 rfl
       | 1,hx,hy=>cases hx;cases hy;exact .same rfl
 · rw [standRes,if_pos hE]
   generalize vcE names hs step l=E at *
   repeat' first|apply W.seq|apply SQn|apply W.region|apply WO.nil|apply W.ret|apply SQr|(apply W.condT;rfl)|(apply WO.neq;rfl;rfl;all_goals first|(intro _;exfalso;omega)|intro _)|(apply WO.cll;rfl;rfl;first|exact q48 _)|(apply WO.hlv;rfl;rfl;rfl)|(apply WO.hpv;rfl;rfl;rfl)|(apply WO.pl;rfl;rfl)|(apply WO.pp;rfl;rfl)
   all_goals first|contradiction|exact ⟨.inr rfl,rfl,_,rfl,fr_nil2⟩
end Go.Ab.Ch6

/-
  Own work: chapter 6: cards in memory of their own.
-/
namespace Go.Ab.Ch6
open Go.Ab.Sort
variable {M:Mach} {cap c1 c2:Option Nat}
theorem card_fr {H:Heap} {o1 o2:AV} {c:Card} {S S1 S2:List Nat} {e1 e2:TypeId} (h1:OutE stC 1 e1 H o1 c.hs S1) (h2:OutE stC 1 e2 H o2 c.off S2) (hS1:∀ b∈blkE o1,b∈S) (hS2:∀ b∈blkE o2,b∈S):FrL H S [.str c.who,o1,o2,.bool c.ret] (cardC c):=
 .cons (.same rfl) (.cons ((h1.fr (esz:=1) (fun _=>rfl) (fun _=>rfl)).mono hS1) (.cons ((h2.fr (esz:=1) (fun _=>rfl) (fun _=>rfl)).mono hS2) (.cons (.same rfl) .nil)))
set_option maxHeartbeats 1000000 in
theorem w45 (hft:M.FT=FT) (l:List Card) (hl:l.length<1000) (hL:∀ c∈l,okC c):∃ v hh,(∃ B,Fr hh B v (.vs (cardsC l) l.length none))∧Run M 45 [.vs (cardsC l) l.length cap] [] ⟨v,hh,[]⟩:=by
 refine run_ofE (P:=fun v hh=>∃ B,Fr hh B v (.vs (cardsC l) l.length none)) (by rw [hft];exact ft45) (by simp) ?_
 unfold b45
 simp only [enter]
 repeat' first|apply W.seq|apply SQn|apply W.region|apply WO.nil|apply W.block|(apply WO.pp;rfl;rfl)
 refine W.loopI l.length (fun i s=>∃ o a3 lo K wr S,s=⟨⟨[.vs (cardsC l) l.length cap,.nilsl,o,a3,.vs (cardsC l) l.length cap,.int .i64 l.length,.int .i64 i],lo,K,[]⟩,wr⟩∧OutF cardC 4 124 K o (l.take i) S∧∀ x∈S,x<K.length) (fun i s hi ⟨o,a3,lo,K,wr,S,hs,ho,hS⟩=>?_) (fun s ⟨o,a3,lo,K,wr,S,hs,ho,hS⟩=>?_) (Nat.zero_le _) ⟨_,_,_,_,_,[],rfl,.nil,by simp⟩
 · subst hs
   have okc:=card_get hL hi
   rw [show l[i]! = l[((i:Int)).toNat]! from rfl] at okc
   have e:=take_snoc' hi
   rw [show l[i]! = l[((i:Int)).toNat]! from rfl] at e
   have hroom:((l.take i).length+1)*72≤roomLimit:=by rw [List.length_take];unfold roomLimit;omega
   obtain ⟨c,hc⟩:∃ c,c=l[((i:Int)).toNat]! := ⟨_,rfl⟩
   unfold b45_0
   have r1:(0+c.hs.length)*16≤roomLimit:=by rw [hc];have:=okc.2.1;unfold roomLimit;omega
   have r2:(0+c.off.length)*16≤roomLimit:=by rw [hc];have:=okc.2.2.1;unfold roomLimit;omega
   repeat' first|(refine WD.appE rfl rfl (fun dn hdn=>?_))|(apply WD.loadN (K.length+1);rfl;omega;(simp [Done.own];try omega))|apply W.seq|apply SQn|apply W.region|apply WO.nil|apply W.block|apply W.skip|apply W.draw|(apply WD.pure1;rfl)|(apply WD.new1;rfl)|(apply W.condT;rfl)|(apply WO.lss;rfl;rfl;all_goals first|(intro _;exfalso;omega)|intro _)|(apply WO.stK;rfl;rfl;exact ⟨rfl,by first|exact Nat.le_refl _|decide|(simp [overwrite]),rfl⟩;rfl)|(apply WO.ldK;rfl;(first|exact at_new|assumption|exact at_old at_new|exact at_old (at_old at_new)|exact at_old (at_old (at_old at_new))|exact at_put (by simp)|((repeat apply at_old);assumption));rfl)|(apply WO.iav;rfl;rfl;omega)|(apply WO.lda;rfl;exact fun _=>rfl;(first|omega|(simp only [List.length_set];omega)|(simp;omega));decide;rfl;case ia=>infer_instance)|(apply WO.hlv;rfl;rfl;rfl)|(apply WO.hpv;rfl;rfl;rfl)|(apply WO.pl;rfl;rfl)
   have hS1:∀ x∈List.range (K.length+1),x<(K++[some (Blk.cells (cardC l[((i:Int)).toNat]!) 167)]).length:=fun x hx=>by
    have:=List.mem_range.1 hx;simp;omega
   refine OutE.app (f:=stC) (m:=(l[((i:Int)).toNat]!).hs) (S:=List.range (K.length+1)) (fun _=>rfl) (fun _=>rfl) (by decide) (OutE.new' hS1) (fun x hx=>by have:=List.mem_range.1 hx;simp;omega) rfl rfl Sl.ofVs (by rw [← hc];exact r1) (fun H1 w1 o1 ho1 hk1 hlen1=>?_)
   have k1:H1.at K.length=some (.cells (cardC l[((i:Int)).toNat]!) 167):=hk1 _ _ (by simp) (at_old at_new)
   have hl1:K.length<H1.length:=at_lt k1
   have hdn':∀ y,(y∈dn.wr∨dn.lo≤y∧y<dn.lo+(dn.hi-dn.lo))→K.length+1≤y:=fun y hy=>by have:=hdn y (by simpa [Done.own] using hy);simp at this;omega
   repeat' first|(refine WD.appE rfl rfl (fun dn2 hdn2=>?_))|(apply WD.loadN (K.length+1);rfl;omega;(intro y hy;simp [Done.own] at hy;rcases hy with hy|hy|hy|hy <;> first|omega|exact hdn' y (.inl hy)|exact hdn' y (.inr hy)))|apply WO.nil|(apply WD.pure1;rfl)|(apply WD.new1;rfl)|(apply WO.ldK;rfl;exact at_old k1;rfl)|(apply WO.hlv;rfl;rfl;rfl)|(apply WO.pl;rfl;rfl)
   refine OutE.app (f:=stC) (m:=(l[((i:Int)).toNat]!).off) (S:=List.range H1.length) (fun _=>rfl) (fun _=>rfl) (by decide) (OutE.new' (fun x hx=>List.mem_range.1 hx)) (fun x hx=>by have:=List.mem_range.1 hx;simp;omega) rfl rfl Sl.ofVs (by rw [← hc];exact r2) (fun H2 w2 o2 ho2 hk2 hlen2=>?_)
   have k2:H2.at K.length=some (.cells (cardC l[((i:Int)).toNat]!) 167):=hk2 _ _ (List.mem_range.2 hl1) (at_old k1)
   have hl2:K.length<H2.length:=at_lt k2
   have one1:=ho1.one
   have one2:=ho2.one
   repeat' first|(apply WO.stj;rfl;(first|exact one1.1|exact one2.1);(first|exact k2|exact at_put hl2);exact ⟨rfl,by simp [overwrite,cardC],by simp [one1.2,one2.2]⟩;rfl)|(apply WO.ldj;rfl;exact at_put (by rw [put_length];exact hl2);rfl)|apply SQn|apply W.region|apply WO.nil|apply WD.nil|(apply WD.pure1;rfl)|(apply WD.store1;rfl;(first|(simp only [List.nil_append,List.cons_append];rfl)|rfl);(first|(simp only [List.nil_append,List.cons_append];rfl)|rfl))|(apply WO.hlv;rfl;rfl;rfl)|(apply WO.pl;rfl;rfl)
   obtain ⟨H3,hH3⟩:∃ H3,H3=(H2.put K.length (some (Blk.cells (overwrite (cardC l[((i:Int)).toNat]!) (0+1) [o1]) 167))).put K.length (some (Blk.cells (overwrite (overwrite (cardC l[((i:Int)).toNat]!) (0+1) [o1]) (0+2) [o2]) 167)):=⟨_,rfl⟩
   rw [← hH3]
   have up:∀ b x,b≠K.length→H2.at b=some x→H3.at b=some x:=fun b x hb hx=>by rw [hH3];exact at_else hb (at_else hb hx)
   have len3:H3.length=H2.length:=by rw [hH3,put_length,put_length]
   have ho1':OutE stC 1 9 H3 o1 (l[((i:Int)).toNat]!).hs (List.range (K.length+1)):=by
    have h:=ho1
    rw [List.nil_append] at h
    exact h.keep (fun b x hb hx=>up b x (fun e=>ho1.notin b hb (List.mem_range.2 (by omega))) (hk2 _ _ (List.mem_range.2 (ho1.lt b hb)) (at_old hx))) (fun _ _ h=>h)
   have ho2':OutE stC 1 9 H3 o2 (l[((i:Int)).toNat]!).off (List.range H1.length):=by
    have h:=ho2
    rw [List.nil_append] at h
    exact h.keep (fun b x hb hx=>up b x (fun e=>ho2.notin b hb (List.mem_range.2 (by omega))) hx) (fun _ _ h=>h)
   have keepK:∀ b x,K.at b=some x→H3.at b=some x:=fun b x hx=>by
    have hb:=at_lt hx
    exact up b x (by omega) (hk2 _ _ (List.mem_range.2 (by omega)) (at_old (hk1 _ _ (List.mem_range.2 (by omega)) (at_old (at_old hx)))))
   have hlK:K.length≤H3.length:=by rw [len3];omega
   refine OutF.push (f:=cardC) (m:=l[((i:Int)).toNat]!) (S:=blkE o1++blkE o2++S) (m':=[.str (l[((i:Int)).toNat]!).who,o1,o2,.bool (l[((i:Int)).toNat]!).ret]) (card_fr ho1' ho2' (fun b hb=>List.mem_append_left _ (List.mem_append_left _ hb)) (fun b hb=>List.mem_append_left _ (List.mem_append_right _ hb))) rfl (by simp only [List.all_cons,List.all_nil,one1.2,one2.2];rfl) (by decide) (ho.keep keepK (fun b hb=>List.mem_append_right _ hb) ?_) ?_ rfl rfl hroom (fun H w' o' ho' hk hlen hlen2=>?_)
   · intro b hb hn
     rcases List.mem_append.1 hb with hb|hb
     · rcases List.mem_append.1 hb with hb|hb
       · have:=ho1.notin b hb
         rw [List.mem_range] at this
         omega
       · have:=ho2.notin b hb
         rw [List.mem_range] at this
         omega
     · exact absurd hb hn
   · intro x hx
     rcases List.mem_append.1 hx with hx|hx
     · rcases List.mem_append.1 hx with hx|hx
       · exact ho1'.lt x hx
       · exact ho2'.lt x hx
     · have:=hS x hx;omega
   · repeat' first|apply SQn|apply W.region|apply WO.nil|apply BQn|(apply WO.add;rfl;rfl;omega)|(apply WO.pp;rfl;rfl)
     exact LIn ⟨_,_,_,_,_,_,rfl,by rw [e];exact ho',hlen⟩
 · subst hs
   rw [List.take_length] at ho
   unfold b45_0
   repeat' first|apply W.seq|apply SQn|apply W.region|apply WO.nil|apply W.ret|apply W.exit|apply SQe|apply BQe|apply LIe|(apply W.condF;rfl)|(apply WO.lss;rfl;rfl;all_goals first|(intro _;exfalso;omega)|intro _)|(apply WO.pl;rfl;rfl)|(apply WO.pp;rfl;rfl)
   exact ⟨.inr rfl,rfl,_,rfl,ho.finF⟩
end Go.Ab.Ch6

/-
  Own work: the code of the law FieldStands.
-/
namespace Go.Ab.Ch6
set_option maxRecDepth 1000000
def b8:ICode:=.seq (.region [⟨.p 2,.box 27 3 (.p 0),none⟩,⟨.p 3,.mv (.c (.bool false)),none⟩]) (.seq (.seq (.region [⟨.l 10,.load 3 true (.p 2),none⟩,⟨.l 11,.mv (.p 1),none⟩,⟨.l 12,.call (.c (.fn (.func 43) [] [])) [(.l 10),(.l 11)],none⟩,⟨.l 13,.un .not (.l 12),none⟩]) (.cond (.l 13) (.seq (.region [⟨.l 14,.call (.c (.fn (.func 10) [] [])) [],none⟩,⟨.p 3,.mv (.l 14),none⟩]) (.ret)) (.skip))) (.seq (.draw [(⟨.l 16,.load 3 true (.p 2),none⟩,[]),(⟨.l 17,.mv (.p 1),none⟩,[0]),(⟨.l 18,.call (.c (.fn (.func 45) [] [])) [(.l 17)],none⟩,[0]),(⟨.l 19,.call (.c (.fn (.func 44) [] [])) [(.l 16),(.l 18)],none⟩,[]),(⟨.l 15,.mv (.l 19),none⟩,[]),(⟨.l 20,.extract 0 (.l 15),none⟩,[]),(⟨.l 21,.extract 1 (.l 15),none⟩,[5]),(⟨.p 4,.mv (.l 20),none⟩,[6]),(⟨.p 5,.mv (.l 21),none⟩,[])]) (.seq (.draw [(⟨.l 23,.load 3 true (.p 2),none⟩,[]),(⟨.l 24,.mv (.p 1),none⟩,[0]),(⟨.l 25,.call (.c (.fn (.func 45) [] [])) [(.l 24)],none⟩,[0]),(⟨.l 26,.call (.c (.fn (.func 46) [] [])) [(.l 23),(.l 25)],none⟩,[]),(⟨.l 22,.mv (.l 26),none⟩,[]),(⟨.l 27,.extract 0 (.l 22),none⟩,[]),(⟨.l 28,.extract 1 (.l 22),none⟩,[5]),(⟨.p 6,.mv (.l 27),none⟩,[6]),(⟨.p 7,.mv (.l 28),none⟩,[])]) (.seq (.region [⟨.l 29,.load 3 true (.p 2),none⟩,⟨.l 30,.call (.c (.fn (.func 14) [] [])) [(.l 29)],none⟩,⟨.p 8,.mv (.l 30),none⟩]) (.seq (.seq (.region [⟨.l 31,.mv (.p 8),none⟩,⟨.l 32,.bin .eql (.l 31) (.c (.int .i64 (0))),none⟩]) (.cond (.l 32) (.region [⟨.l 33,.load 3 true (.p 2),none⟩,⟨.l 34,.mv (.p 1),none⟩,⟨.l 35,.call (.c (.fn (.func 47) [] [])) [(.l 33),(.l 34)],none⟩,⟨.p 8,.mv (.l 35),none⟩]) (.skip))) (.seq (.seq (.draw [(⟨.l 36,.load 3 true (.p 2),none⟩,[]),(⟨.l 37,.mv (.p 1),none⟩,[0]),(⟨.l 38,.call (.c (.fn (.func 45) [] [])) [(.l 37)],none⟩,[0]),(⟨.l 39,.call (.c (.fn (.func 48) [] [])) [(.l 36),(.l 38)],none⟩,[]),(⟨.l 40,.mv (.p 8),none⟩,[0,1,2,3]),(⟨.l 41,.bin .neq (.l 39) (.l 40),none⟩,[])]) (.cond (.l 41) (.seq (.region [⟨.p 3,.mv (.c (.bool false)),none⟩]) (.ret)) (.skip))) (.seq (.seq (.region [⟨.l 42,.mv (.p 8),none⟩,⟨.l 43,.bin .neq (.l 42) (.c (.int .i64 (0))),none⟩]) (.cond (.l 43) (.seq (.region [⟨.l 44,.mv (.p 5),none⟩,⟨.l 45,.mv (.p 8),none⟩,⟨.l 46,.bin .eql (.l 44) (.l 45),none⟩,⟨.l 47,.mv (.l 46),none⟩,⟨.l 48,.mv (.p 4),some ((.l 47),true)⟩,⟨.l 49,.len .sl (.l 48),some ((.l 47),true)⟩,⟨.l 50,.bin .eql (.l 49) (.c (.int .i64 (0))),some ((.l 47),true)⟩,⟨.l 51,.pick (.l 47) (.l 50) (.c (.bool false)),none⟩,⟨.l 52,.mv (.l 51),none⟩,⟨.l 53,.mv (.p 7),some ((.l 52),true)⟩,⟨.l 54,.mv (.p 8),some ((.l 52),true)⟩,⟨.l 55,.bin .eql (.l 53) (.l 54),some ((.l 52),true)⟩,⟨.l 56,.pick (.l 52) (.l 55) (.c (.bool false)),none⟩,⟨.l 57,.mv (.l 56),none⟩,⟨.l 58,.mv (.p 6),some ((.l 57),true)⟩,⟨.l 59,.len .sl (.l 58),some ((.l 57),true)⟩,⟨.l 60,.bin .eql (.l 59) (.c (.int .i64 (0))),some ((.l 57),true)⟩,⟨.l 61,.pick (.l 57) (.l 60) (.c (.bool false)),none⟩,⟨.l 62,.mv (.l 61),none⟩,⟨.l 63,.call (.c (.fn (.func 10) [] [])) [],some ((.l 62),true)⟩,⟨.l 64,.pick (.l 62) (.l 63) (.c (.bool false)),none⟩,⟨.p 3,.mv (.l 64),none⟩]) (.ret)) (.skip))) (.seq (.seq (.draw [(⟨.l 65,.mv (.p 5),none⟩,[]),(⟨.l 66,.bin .neq (.l 65) (.c (.int .i64 (0))),none⟩,[]),(⟨.l 67,.mv (.l 66),none⟩,[]),(⟨.l 68,.mv (.p 4),some ((.l 67),false)⟩,[]),(⟨.l 69,.call (.c (.fn (.func 30) [] [])) [(.l 68)],some ((.l 67),false)⟩,[]),(⟨.l 70,.load 3 true (.p 2),some ((.l 67),false)⟩,[3,4]),(⟨.l 71,.mv (.p 1),some ((.l 67),false)⟩,[3,4,5]),(⟨.l 72,.call (.c (.fn (.func 49) [] [])) [(.l 70),(.l 71)],some ((.l 67),false)⟩,[]),(⟨.l 73,.call (.c (.fn (.func 29) [] [])) [(.l 69),(.l 72)],some ((.l 67),false)⟩,[]),(⟨.l 74,.un .not (.l 73),some ((.l 67),false)⟩,[]),(⟨.l 75,.pick (.l 67) (.c (.bool true)) (.l 74),none⟩,[])]) (.cond (.l 75) (.seq (.region [⟨.p 3,.mv (.c (.bool false)),none⟩]) (.ret)) (.skip))) (.seq (.seq (.region [⟨.l 76,.mv (.p 1),none⟩,⟨.l 77,.call (.c (.fn (.func 50) [] [])) [(.l 76)],none⟩,⟨.l 78,.bin .eql (.l 77) (.c (.int .i64 (0))),none⟩,⟨.l 79,.mv (.l 78),none⟩,⟨.l 80,.mv (.p 1),some ((.l 79),false)⟩,⟨.l 81,.call (.c (.fn (.func 51) [] [])) [(.l 80)],some ((.l 79),false)⟩,⟨.l 82,.un .not (.l 81),some ((.l 79),false)⟩,⟨.l 83,.pick (.l 79) (.c (.bool true)) (.l 82),none⟩]) (.cond (.l 83) (.seq (.region [⟨.l 84,.mv (.p 7),none⟩,⟨.l 85,.bin .eql (.l 84) (.c (.int .i64 (7))),none⟩,⟨.l 86,.mv (.l 85),none⟩,⟨.l 87,.mv (.p 6),some ((.l 86),true)⟩,⟨.l 88,.len .sl (.l 87),some ((.l 86),true)⟩,⟨.l 89,.bin .eql (.l 88) (.c (.int .i64 (0))),some ((.l 86),true)⟩,⟨.l 90,.pick (.l 86) (.l 89) (.c (.bool false)),none⟩,⟨.l 91,.mv (.l 90),none⟩,⟨.l 92,.call (.c (.fn (.func 10) [] [])) [],some ((.l 91),true)⟩,⟨.l 93,.pick (.l 91) (.l 92) (.c (.bool false)),none⟩,⟨.p 3,.mv (.l 93),none⟩]) (.ret)) (.skip))) (.seq (.region [⟨.l 94,.mv (.p 7),none⟩,⟨.l 95,.bin .eql (.l 94) (.c (.int .i64 (0))),none⟩,⟨.l 96,.mv (.l 95),none⟩,⟨.l 97,.mv (.p 6),some ((.l 96),true)⟩,⟨.l 98,.load 3 true (.p 2),some ((.l 96),true)⟩,⟨.l 99,.mv (.p 1),some ((.l 96),true)⟩,⟨.l 100,.call (.c (.fn (.func 53) [] [])) [(.l 98),(.l 99)],some ((.l 96),true)⟩,⟨.l 101,.call (.c (.fn (.func 52) [] [])) [(.l 97),(.l 100)],some ((.l 96),true)⟩,⟨.l 102,.pick (.l 96) (.l 101) (.c (.bool false)),none⟩,⟨.l 103,.mv (.l 102),none⟩,⟨.l 104,.call (.c (.fn (.func 10) [] [])) [],some ((.l 103),true)⟩,⟨.l 105,.pick (.l 103) (.l 104) (.c (.bool false)),none⟩,⟨.p 3,.mv (.l 105),none⟩]) (.ret)))))))))))
theorem ft8:FT 8=some ⟨106,[0,1,2,4,5,6,7,8,9],[.var (.p 3)],b8⟩:=by kernel_rfl
end Go.Ab.Ch6

/-
  Own work: chapter 6: the law FieldStands.
-/
namespace Go.Ab.Ch6
open Go.Ab.Sort
variable {M:Mach} {cap c1 c2:Option Nat}
abbrev vC (names:List Str) (hs:List Int) (step:Int):AV:=.agg (vertC names hs step none none)
abbrev lC (l:List Card):AV:=.vs (cardsC l) l.length none
def okL (l:List Card):Prop:=l.length<1000∧∀ c∈l,okC c
def okN (names:List Str) (hs:List Int):Prop:=names.length<1000000∧(∀ s∈names,s.length<1000000)∧hs.length<1000000
structure C8 (M:Mach):Prop where
 ft:M.FT=FT
 c10:∀ h,M.ext 10 [] h=some ⟨.bool true,h,[]⟩
 c43:∀ names hs step l h,M.ext 43 [vC names hs step,lC l] h=some ⟨.bool (shortCs names hs l),h,[]⟩
 c45:∀ l h,okL l→M.ext 45 [lC l] h=some ⟨lC l,h,[]⟩
 c44:∀ names hs step l h,okL l→okN names hs→M.ext 44 [vC names hs step,lC l] h=some ⟨standRes names hs step l,h,[]⟩
 c46:∀ names hs step l h,okL l→okN names hs→M.ext 46 [vC names hs step,lC l] h=some ⟨offRes names hs step l,h,[]⟩
 c14:∀ names hs step h,okN names hs→M.ext 14 [vC names hs step] h=some ⟨.int .i64 (verticalE names hs step),h,[]⟩
 c47:∀ names hs step l h,okL l→M.ext 47 [vC names hs step,lC l] h=some ⟨.int .i64 (cardsE names hs l),h,[]⟩
 c48:∀ names hs step l h,okL l→okN names hs→M.ext 48 [vC names hs step,lC l] h=some ⟨.int .i64 (vcE names hs step l),h,[]⟩
 c49:∀ names hs step l h,okL l→OkV hs step l→M.ext 49 [vC names hs step,lC l] h=some ⟨.vs (placesC (orderP (standS hs l))) (orderP (standS hs l)).length none,h,[]⟩
 c29:∀ (P:List Place) v h,Sl placeC h v P→P.length<1000000→M.ext 29 [.vs (placesC P) P.length none,v] h=some ⟨.bool true,h,[]⟩
 c30:∀ (P:List Place) h,P.length<1000000→M.ext 30 [.vs (placesC P) P.length none] h=some ⟨.vs (placesC P) P.length none,h,[]⟩
 c50:∀ l h,okL l→M.ext 50 [lC l] h=some ⟨.int .i64 (roundsN l),h,[]⟩
 c51:∀ l h,okL l→M.ext 51 [lC l] h=some ⟨.bool (decide (0<(firstsL l).length)),h,[]⟩
 c53:∀ names hs step l h,okL l→OkV hs step l→firstsL l≠[]→M.ext 53 [vC names hs step,lC l] h=some ⟨.vs (ints (offHs hs step l)) (offHs hs step l).length none,h,[]⟩
 c52:∀ (l:List Int) h,l.length<1000000→M.ext 52 [.vs (ints l) l.length none,.vs (ints l) l.length none] h=some ⟨.bool true,h,[]⟩
theorem short_cards {names:List Str} {hs:List Int} {l:List Card} (h:shortCs names hs l=true):okL l∧okN names hs:=by
 simp only [shortCs,Bool.and_eq_true,decide_eq_true_eq,List.all_eq_true] at h
 obtain ⟨⟨⟨h1,h2⟩,h3⟩,h4⟩:=h
 obtain ⟨n1,n2⟩:=short_names h1
 refine ⟨⟨by omega,fun c hc=>?_⟩,n1,n2,by omega⟩
 have:=h4 c hc
 simp only [shortC,Bool.and_eq_true,decide_eq_true_eq,List.all_eq_true] at this
 obtain ⟨⟨⟨⟨a,b⟩,c'⟩,d⟩,e⟩:=this
 exact ⟨by omega,by omega,by omega,fun s hs=>by have:=d s hs;omega,fun s hs=>by have:=e s hs;omega⟩
set_option maxHeartbeats 4000000 in
theorem w8 (C:C8 M) (names:List Str) (hs:List Int) (step:Int) (l:List Card):Run M 8 [vC names hs step,lC l] [] ⟨.bool true,[],[]⟩:=by
 have hEnd:∀ s:StW,s.s.dfs=[]→s.s.pe[3]? = some (.bool true)→((fun (e:Ex) (s:StW)=>(e = .normal∨e = .ret)∧s.s.dfs=[]∧∃ vs,resultsA s.s [.var (.p 3)]=some vs∧tupA vs = .bool true∧(if (AV.bool true).top≤0 then [] else s.s.hp)=[]) Ex.ret s):=fun s h1 h2=>
  ⟨.inr rfl,h1,[.bool true],by simp only [resultsA,St.opd,h2],rfl,rfl⟩
 have q10:=C.c10
 have q43:=C.c43 names hs step l
 refine run_of_W (by rw [C.ft];exact ft8) (by simp) ?_
 unfold b8
 simp only [enter]
 cases h2:shortCs names hs l with
 | false=>
  rw [h2] at q43
  repeat' first|apply W.seq|apply SQn|apply W.region|apply WO.nil|apply W.ret|apply SQr|(apply W.condT;rfl)|(apply WO.cll;rfl;rfl;first|exact q10 _|exact q43 _)|(apply WO.hlv;rfl;rfl;rfl)|(apply WO.hpv;rfl;rfl;rfl)|(apply WO.pl;rfl;rfl)|(apply WO.pp;rfl;rfl)
  all_goals exact hEnd _ rfl rfl
 | true=>
  rw [h2] at q43
  obtain ⟨ok,on⟩:=short_cards h2
  have q45:=fun h=>C.c45 l h ok
  have q44:=fun h=>C.c44 names hs step l h ok on
  have q46:=fun h=>C.c46 names hs step l h ok on
  have q14:=fun h=>C.c14 names hs step h on
  have q47:=fun h=>C.c47 names hs step l h ok
  have q48:=fun h=>C.c48 names hs step l h ok on
  by_cases hV:vcE names hs step l=0
  · obtain ⟨v1,v2,okv⟩:=vc_ok hV
    have q49:=fun h=>C.c49 names hs step l h ok okv
    have hlen:(orderP (standS hs l)).length<1000000:=by rw [order_lenS standS_rank,standS_len];have:=ok.1;omega
    rw [standRes,if_neg (fun hh=>hh hV)] at q44
    rw [offRes,if_neg (fun hh=>hh hV)] at q46
    rw [hV] at q48
    rw [v1] at q14
    rw [v2] at q47
    generalize orderP (standS hs l)=P at *
    have q29:=fun h=>C.c29 P (.vs (placesC P) P.length none) h .ofVs hlen
    have q30:=fun h=>C.c30 P h hlen
    have q50:=fun h=>C.c50 l h ok
    have q51:=fun h=>C.c51 l h ok
    by_cases h0:(firstsL l).length=0
    · rw [if_pos (.inr h0)] at q46
      rw [decide_eq_false (by omega)] at q51
      repeat' first|(apply WD.cl0;rfl;rfl;(first|(simp only [List.nil_append,List.cons_append];rfl)|rfl);first|exact q45 _|exact q44 _|exact q46 _|exact q48 _|exact q30 _|exact q49 _|exact q29 _)|apply W.seq|apply SQn|apply W.region|apply WO.nil|apply W.ret|apply W.skip|apply SQr|apply W.draw|apply WD.nil|(apply WD.gF;rfl)|(apply WD.pure1;rfl)|(apply WD.load1;rfl;rfl;(first|(simp only [List.nil_append,List.cons_append];rfl)|rfl))|(apply W.condT;rfl)|(apply W.condF;rfl)|(apply WO.gT;rfl)|(apply WO.gF;rfl)|(apply WO.sF;rfl)|(apply WO.eql;rfl;rfl;all_goals first|(intro _;exfalso;omega)|intro _)|(apply WO.neq;rfl;rfl;all_goals first|(intro _;exfalso;omega)|intro _)|(apply WO.pkT;rfl;rfl)|(apply WO.pkF;rfl;rfl)|(apply WO.cll;rfl;rfl;first|exact q10 _|exact q43 _|exact q14 _|exact q47 _|exact q50 _|exact q51 _)|(apply WO.hlv;rfl;rfl;rfl)|(apply WO.hpv;rfl;rfl;rfl)|(apply WO.pl;rfl;rfl)|(apply WO.pp;rfl;rfl)
      all_goals first|(exfalso;omega)|contradiction|exact hEnd _ rfl rfl
    · rw [decide_eq_true (by omega)] at q51
      by_cases hr:roundsN l=0
      · rw [if_pos (.inl hr)] at q46
        rw [hr] at q50
        repeat' first|(apply WD.cl0;rfl;rfl;(first|(simp only [List.nil_append,List.cons_append];rfl)|rfl);first|exact q45 _|exact q44 _|exact q46 _|exact q48 _|exact q30 _|exact q49 _|exact q29 _)|apply W.seq|apply SQn|apply W.region|apply WO.nil|apply W.ret|apply W.skip|apply SQr|apply W.draw|apply WD.nil|(apply WD.gF;rfl)|(apply WD.pure1;rfl)|(apply WD.load1;rfl;rfl;(first|(simp only [List.nil_append,List.cons_append];rfl)|rfl))|(apply W.condT;rfl)|(apply W.condF;rfl)|(apply WO.gT;rfl)|(apply WO.sF;rfl)|(apply WO.eql;rfl;rfl;all_goals first|(intro _;exfalso;omega)|intro _)|(apply WO.neq;rfl;rfl;all_goals first|(intro _;exfalso;omega)|intro _)|(apply WO.pkT;rfl;rfl)|(apply WO.pkF;rfl;rfl)|(apply WO.cll;rfl;rfl;first|exact q10 _|exact q43 _|exact q14 _|exact q47 _|exact q50 _|exact q51 _)|(apply WO.hlv;rfl;rfl;rfl)|(apply WO.hpv;rfl;rfl;rfl)|(apply WO.pl;rfl;rfl)|(apply WO.pp;rfl;rfl)
        all_goals first|(exfalso;omega)|contradiction|exact hEnd _ rfl rfl
      · have h0':firstsL l≠[]:=fun h=>h0 (by rw [h];rfl)
        have q53:=fun h=>C.c53 names hs step l h ok okv h0'
        have q52:=fun h=>C.c52 (offHs hs step l) h (by
         have:=rounds_lt ok.2
         simp only [offHs,List.length_map,List.length_range];omega)
        rw [if_neg (by omega)] at q46
        generalize offHs hs step l=O at *
        repeat' first|(apply WD.cl0;rfl;rfl;(first|(simp only [List.nil_append,List.cons_append];rfl)|rfl);first|exact q45 _|exact q44 _|exact q46 _|exact q48 _|exact q30 _|exact q49 _|exact q29 _)|apply W.seq|apply SQn|apply W.region|apply WO.nil|apply W.ret|apply W.skip|apply W.draw|apply WD.nil|(apply WD.gF;rfl)|(apply WD.pure1;rfl)|(apply WD.load1;rfl;rfl;(first|(simp only [List.nil_append,List.cons_append];rfl)|rfl))|(apply W.condT;rfl)|(apply W.condF;rfl)|(apply WO.gT;rfl)|(apply WO.gF;rfl)|(apply WO.eql;rfl;rfl;all_goals first|(intro _;exfalso;omega)|intro _)|(apply WO.neq;rfl;rfl;all_goals first|(intro _;exfalso;omega)|intro _)|(apply WO.pkT;rfl;rfl)|(apply WO.pkF;rfl;rfl)|(apply WO.cll;rfl;rfl;first|exact q10 _|exact q43 _|exact q14 _|exact q47 _|exact q50 _|exact q51 _|exact q53 _|exact q52 _)|(apply WO.hlv;rfl;rfl;rfl)|(apply WO.hpv;rfl;rfl;rfl)|(apply WO.pl;rfl;rfl)|(apply WO.pp;rfl;rfl)
        all_goals first|(exfalso;omega)|contradiction|exact hEnd _ rfl rfl
  · rw [standRes,if_pos hV] at q44
    rw [offRes,if_pos hV] at q46
    by_cases hv:verticalE names hs step=0
    · have e:vcE names hs step l=cardsE names hs l:=by rw [vcE,if_neg (fun h=>h hv)]
      rw [e] at q44 q46 q48 hV
      rw [hv] at q14
      generalize cardsE names hs l=E at *
      repeat' first|(apply WD.cl0;rfl;rfl;(first|(simp only [List.nil_append,List.cons_append];rfl)|rfl);first|exact q45 _|exact q44 _|exact q46 _|exact q48 _)|apply W.seq|apply SQn|apply W.region|apply WO.nil|apply W.ret|apply W.skip|apply SQr|apply W.draw|apply WD.nil|(apply WD.pure1;rfl)|(apply WD.load1;rfl;rfl;(first|(simp only [List.nil_append,List.cons_append];rfl)|rfl))|(apply W.condT;rfl)|(apply W.condF;rfl)|(apply WO.gT;rfl)|(apply WO.eql;rfl;rfl;all_goals first|(intro _;exfalso;omega)|intro _)|(apply WO.neq;rfl;rfl;all_goals first|(intro _;exfalso;omega)|intro _)|(apply WO.pkT;rfl;rfl)|(apply WO.cll;rfl;rfl;first|exact q10 _|exact q43 _|exact q14 _|exact q47 _)|(apply WO.hlv;rfl;rfl;rfl)|(apply WO.hpv;rfl;rfl;rfl)|(apply WO.pl;rfl;rfl)|(apply WO.pp;rfl;rfl)
      all_goals first|(exfalso;omega)|contradiction|exact hEnd _ rfl rfl
    · have e:vcE names hs step l=verticalE names hs step:=by rw [vcE,if_pos hv]
      rw [e] at q44 q46 q48 hV
      generalize verticalE names hs step=E at *
      repeat' first|(apply WD.cl0;rfl;rfl;(first|(simp only [List.nil_append,List.cons_append];rfl)|rfl);first|exact q45 _|exact q44 _|exact q46 _|exact q48 _)|apply W.seq|apply SQn|apply W.region|apply WO.nil|apply W.ret|apply W.skip|apply SQr|apply W.draw|apply WD.nil|(apply WD.pure1;rfl)|(apply WD.load1;rfl;rfl;(first|(simp only [List.nil_append,List.cons_append];rfl)|rfl))|(apply W.condT;rfl)|(apply W.condF;rfl)|(apply WO.gT;rfl)|(apply WO.eql;rfl;rfl;all_goals first|(intro _;exfalso;omega)|intro _)|(apply WO.neq;rfl;rfl;all_goals first|(intro _;exfalso;omega)|intro _)|(apply WO.pkT;rfl;rfl)|(apply WO.cll;rfl;rfl;first|exact q10 _|exact q43 _|exact q14 _|exact q47 _)|(apply WO.hlv;rfl;rfl;rfl)|(apply WO.hpv;rfl;rfl;rfl)|(apply WO.pl;rfl;rfl)|(apply WO.pp;rfl;rfl)
      all_goals first|(exfalso;omega)|contradiction|exact hEnd _ rfl rfl
end Go.Ab.Ch6

/-
  Own work: the contracts of FieldStands as a table.
-/
namespace Go.Ab.Ch6
open Go.Proofs Go.Ab.Sort
variable {h:Heap} {cap c1 c2:Option Nat}
theorem self_card (c:Card):selfC h (cardC c):=.cons (.atom rfl) (.cons (.ofVs (self_strs c.hs)) (.cons (.ofVs (self_strs c.off)) (.cons (.atom rfl) .nil)))
theorem fc_card (c:Card):FrC h (.agg (cardC c)) (.agg (cardC c)):=.agg rfl (self_card c).2
theorem fc_cards {l:List Card} {n:Nat} {c:Option Nat}:FrC h (.vs (cardsC l) n c) (.vs (cardsC l) n c):=.ofVs (selfC_arr self_card l)
theorem fc_vert {names:List Str} {hs:List Int} {step:Int}:FrC h (.agg (vertC names hs step c1 c2)) (.agg (vertC names hs step c1 c2)):=.agg rfl (FrCL.cons (FrC.ofVs (self_strs names)) (FrCL.cons (FrC.ofVs (self_ints hs)) (atoms_self rfl))).2
theorem can_card (c:Card):canL (cardC c)=cardC c:=by
 simp only [cardC,canL,can_strs]
 rfl
theorem can_cards (l:List Card) (n:Nat):canA (.vs (cardsC l) n none) = .vs (cardsC l) n none:=can_arr can_card l n
theorem top_card (c:Card):topL (cardC c)=0:=by
 have h1:topL (strs c.hs)=0:=topL_arr (fun _=>rfl) _
 have h2:topL (strs c.off)=0:=topL_arr (fun _=>rfl) _
 simp only [cardC,topL,AV.top,h1,h2];rfl
theorem vtop_cards (l:List Card) {n:Nat} {c:Option Nat}:(AV.vs (cardsC l) n c).top=0:=topL_arr top_card l
theorem top_cards1 {l:List Card}:topL [AV.vs (cardsC l) l.length cap]=0:=by simp only [topL,vtop_cards];rfl
theorem top_vert {names:List Str} {hs:List Int} {step:Int}:(AV.agg (vertC names hs step c1 c2)).top=0:=by
 show topL [_,_,_]=0
 simp only [topL,vtop_strs,vtop_ints];rfl
theorem top_vc {names:List Str} {hs:List Int} {step:Int} {l:List Card}:topL [AV.agg (vertC names hs step c1 c2),AV.vs (cardsC l) l.length cap]=0:=by
 simp only [topL,vtop_cards,top_vert];rfl
noncomputable def Q0:List (Nat×Spec):=(145,sC [] 145)::(192,sC [] 192)::[]
theorem Q0_ok:ExtOK Tryz.prog gl (extS Q0):=tab_cons (sC_ok tab_nil) (tab_cons (sC_ok tab_nil) tab_nil)
theorem k142s (x y:Int):sC Q0 142 [.int .i64 x,.int .i64 y] h=some ⟨.int .i64 (cmpI x y),h,[]⟩:=
 specC_eq (atoms_self rfl) (.of (w142 mach_ft (fun x h=>by rw [mach_ext];exact k192 x) x y))
noncomputable def Q1:List (Nat×Spec):=(142,sC Q0 142)::Q0
theorem Q1_ok:ExtOK Tryz.prog gl (extS Q1):=tab_cons (sC_ok Q0_ok) Q0_ok
theorem k139s {a b:List Int} {v1 v2:AV} (h1:Sl inC h v1 a) (h2:Sl inC h v2 b) (hl:a.length<1000000):sC Q1 139 [v1,v2] h=some ⟨.int .i64 (cmpL a b),h,[]⟩:=by
 obtain ⟨_,f1⟩:=FrC.ofSl (fun _=>atoms_self rfl) h1
 obtain ⟨_,f2⟩:=FrC.ofSl (fun _=>atoms_self rfl) h2
 exact specC_eq (.cons f1 (.cons f2 .nil)) (.of (w139 mach_ft (fun x y h=>by rw [mach_ext];exact k142s x y) a b hl))
theorem k144s (p q:Place):sC Q1 144 [.agg (placeC p),.agg (placeC q)] h=some ⟨.int .i64 (cfP p q),h,[]⟩:=
 specC_eq (.cons (fc_place p) (.cons (fc_place q) .nil)) (.of (w144 mach_ft (fun x y h=>by rw [mach_ext];exact k142s x y) (fun l v h hs hl=>by rw [mach_ext];exact k145 hs hl) p q))
noncomputable def Q2:List (Nat×Spec):=(144,sC Q1 144)::(139,sC Q1 139)::(89,sC [] 89)::(79,sC [] 79)::(30,sC [] 30)::(29,sC [] 29)::(80,sC [] 80)::(64,specWhen)::(63,specRange)::(61,specFirst)::(67,specName)::(9,specShort)::(10,specAwake)::Q1
theorem Q2_ok:ExtOK Tryz.prog gl (extS Q2):=tab_cons (sC_ok Q1_ok) (tab_cons (sC_ok Q1_ok) (tab_cons (sC_ok tab_nil) (tab_cons (sC_ok tab_nil) (tab_cons (sC_ok tab_nil) (tab_cons (sC_ok tab_nil) (tab_cons (sC_ok tab_nil) (tab_cons when64 (tab_cons range63 (tab_cons first61 (tab_cons name67 (tab_cons short9 (tab_cons awake10 Q1_ok))))))))))))
noncomputable def S0:List (Nat×Spec):=(13,specVertical)::(14,specVertical)::(68,specName)::(232,specX .count)::(149,sC [] 149)::(150,sC [] 150)::(87,sC [] 87)::(148,sC [] 148)::(157,sC [] 157)::(101,sC [] 101)::(159,sC [] 159)::(52,sC [] 52)::(50,sC [] 50)::(191,sC [] 191)::(140,sC [] 140) ::
 (153,sC [] 153)::(154,sC [] 154)::(141,sC [] 141)::(45,sF [] 45)::Q2
theorem S0_ok:ExtOK Tryz.prog gl (extS S0):=tab_cons vertical13 (tab_cons vertical14 (tab_cons name68 (tab_cons (specX_ok x232) (tab_cons (sC_ok tab_nil) (tab_cons (sC_ok tab_nil) (tab_cons (sC_ok tab_nil) (tab_cons (sC_ok tab_nil) (tab_cons (sC_ok tab_nil) (tab_cons (sC_ok tab_nil) (tab_cons (sC_ok tab_nil)
 (tab_cons (sC_ok tab_nil) (tab_cons (sC_ok tab_nil) (tab_cons (sC_ok tab_nil) (tab_cons (sC_ok tab_nil) (tab_cons (sC_ok tab_nil) (tab_cons (sC_ok tab_nil) (tab_cons (sC_ok tab_nil) (tab_cons (sF_ok tab_nil) Q2_ok))))))))))))))))))
theorem k149 {s:Str} (hl:s.length<1000000):sC [] 149 [.str s] h=some ⟨.int .i64 (failN s),h,[]⟩:=specC_eq (atoms_self rfl) (.of (w149 (M:=m0) mach_ft s hl))
theorem k150 {s:Str} (hl:s.length<1000000):sC [] 150 [.str s] h=some ⟨.int .u8 (lastB s),h,[]⟩:=specC_eq (atoms_self rfl) (.of (w150 (M:=m0) mach_ft s hl))
theorem k87 (c:Card):sC [] 87 [.agg (cardC c)] h=some ⟨.bool (shortC c),h,[]⟩:=specC_eq (.cons (fc_card c) .nil) (.of (w87 (M:=m0) mach_ft c))
theorem k148 (s:Str):sC [] 148 [.str s] h=some ⟨.bool (shaped s),h,[]⟩:=specC_eq (atoms_self rfl) (.of (w148 (M:=m0) mach_ft s))
theorem k157 (a b:Int):sC [] 157 [.int .i64 a,.int .i64 b] h=some ⟨.int .i64 (cmpR a b),h,[]⟩:=specC_eq (atoms_self rfl) (.of (w157 (M:=m0) mach_ft a b))
theorem k101 {l:List Int} {n:Int} (hl:l.length<1000000):sC [] 101 [.vs (ints l) l.length cap,.int .i64 n] h=some ⟨.bool (decide (n∈l)),h,[]⟩:=specC_eq (.cons fc_ints (atoms_self rfl)) (.of (w101 (M:=m0) mach_ft l n hl))
theorem k159 {c:Card} {i:Nat} (hi:i<1000000):sC [] 159 [.agg (cardC c),.int .i64 i] h=some ⟨.int .i64 (notedI c i),h,[]⟩:=specC_eq (.cons (fc_card c) (atoms_self rfl)) (.of (w159 (M:=m0) mach_ft c i hi))
theorem k52 {l:List Int} (hl:l.length<1000000):sC [] 52 [.vs (ints l) l.length c1,.vs (ints l) l.length c2] h=some ⟨.bool true,h,[]⟩:=specC_eq (.cons fc_ints (.cons fc_ints .nil)) (.of (w52 (M:=m0) mach_ft l hl))
theorem k50 {l:List Card} (ok:okL l):sC [] 50 [.vs (cardsC l) l.length cap] h=some ⟨.int .i64 (roundsN l),h,[]⟩:=specC_eq (.cons fc_cards .nil) (.of (w50 (M:=m0) mach_ft l ok.1 ok.2))
theorem k191 {s:Str} {b:UInt8} (hl:s.length<1000000):sC [] 191 [.str s,.str [b]] h=some ⟨.bool (endB b s),h,[]⟩:=specC_eq (atoms_self rfl) (.of (w191 (M:=m0) mach_ft s b hl))
theorem k140 {l:List Int} {x:Int} (hl:l.length<1000000):sC [] 140 [.vs (ints l) l.length cap,.int .i64 x] h=some ⟨.int .i64 (idxI x l 0),h,[]⟩:=specC_eq (.cons fc_ints (atoms_self rfl)) (.of (w140 (M:=m0) mach_ft l x hl))
theorem k153 {s:Str} (hl:s.length<1000000):sC [] 153 [.str s] h=some ⟨.bool (shaped s),h,[]⟩:=specC_eq (atoms_self rfl) (.of (w153 (M:=m0) mach_ft s hl))
theorem k154 (s:Str):sC [] 154 [.str s] h=some ⟨.bool (!offOk s),h,[]⟩:=specC_eq (atoms_self rfl) (.of (w154 (M:=m0) mach_ft s))
theorem k141 {c:Card} {i:Nat} (hi:i<1000000):sC [] 141 [.agg (cardC c),.int .i64 i] h=some ⟨.int .i64 (notedP c i),h,[]⟩:=specC_eq (.cons (fc_card c) (atoms_self rfl)) (.of (w141 (M:=m0) mach_ft c i hi))
theorem k45 {l:List Card} (ok:okL l):sF [] 45 [.vs (cardsC l) l.length cap] h=some ⟨.vs (cardsC l) l.length none,h,[]⟩:=by
 obtain ⟨v,hh,⟨B,h1⟩,h2⟩:=w45 (M:=m0) (cap:=cap) mach_ft l ok.1 ok.2
 exact specF_eq ⟨v,hh,B,h2,h1,top_cards1,vtop_cards _,can_cards l _⟩
theorem foldl_fail (s:Str):∀ n:Int,s.foldl (fun n x=>if x == 120 then n+1 else n) n=n+failN s:=by
 induction s with
 | nil=>intro n;simp [failN]
 | cons c s ih=>
  intro n
  rw [List.foldl_cons,ih,failN]
  by_cases hc:c=120
  · subst hc;simp;omega
  · have h2:¬ c.toNat=120:=fun h=>hc (UInt8.toNat_inj.1 (by rw [h];rfl))
    rw [if_neg h2,if_neg (by simpa using hc)];simp
theorem count_fail (s:Str):specX .count [.str s,.int .u8 120] h=some ⟨.int .i64 (failN s),h,[]⟩:=by
 have e:(ByteArray.mk s.toArray).foldl (fun n x=>if x == 120 then n+1 else n) ((0:Nat):Int)=failN s:=by
  rw [Go.Lib.foldl_data]
  show s.foldl _ _=_
  rw [foldl_fail]
  simp
 rw [← e]
 rfl
noncomputable def S1:List (Nat×Spec):=(99,sC S0 99)::(137,sC S0 137)::(92,sC S0 92)::(196,sC S0 196)::(152,sC S0 152)::(96,sC S0 96)::(43,sC S0 43)::(102,sC S0 102)::S0
theorem S1_ok:ExtOK Tryz.prog gl (extS S1):=tab_cons (sC_ok S0_ok) (tab_cons (sC_ok S0_ok) (tab_cons (sC_ok S0_ok) (tab_cons (sC_ok S0_ok) (tab_cons (sC_ok S0_ok) (tab_cons (sC_ok S0_ok) (tab_cons (sC_ok S0_ok) (tab_cons (sC_ok S0_ok) S0_ok)))))))
theorem k99 {c:Card} (hl:c.hs.length<1000000) (hH:∀ s∈c.hs,s.length<1000):sC S0 99 [.agg (cardC c)] h=some ⟨.int .i64 (bestI c),h,[]⟩:=specC_eq (.cons (fc_card c) .nil) (.of (w99 mach_ft (fun s h hs=>by rw [mach_ext];exact k150 hs) c hl hH))
theorem k137 {s:Str} {b:UInt8} (hl:s.length<1000000):sC S0 137 [.str s,.str [b]] h=some ⟨.bool (endB b s),h,[]⟩:=specC_eq (atoms_self rfl) (.of (w137 mach_ft s b (fun h=>by rw [mach_ext];exact k191 hl)))
theorem k92 {l:List Int} {x:Int} (hl:l.length<1000000):sC S0 92 [.vs (ints l) l.length cap,.int .i64 x] h=some ⟨.bool (decide (x∈l)),h,[]⟩:=specC_eq (.cons fc_ints (atoms_self rfl)) (.of (w92 mach_ft l x (fun h=>by rw [mach_ext];exact k140 hl)))
theorem k196 (s:Str):sC S0 196 [.str s,.str [120]] h=some ⟨.int .i64 (failN s),h,[]⟩:=specC_eq (atoms_self rfl) (.of (w196 mach_ft s (failN s) (fun h=>by rw [mach_ext];exact count_fail s)))
theorem k152 {s:Str} (hl:s.length<1000000):sC S0 152 [.str s] h=some ⟨.bool (!shaped s),h,[]⟩:=specC_eq (atoms_self rfl) (.of (w152 mach_ft s (fun h=>by rw [mach_ext];exact k153 hl)))
theorem k96 {c:Card} (ok:okC c):sC S0 96 [.agg (cardC c)] h=some ⟨.int .i64 (formE c),h,[]⟩:=specC_eq (.cons (fc_card c) .nil) (.of (w96 mach_ft (fun s h hs=>by
 rw [mach_ext]
 show specName [.str s] h=_
 simp only [specName,if_pos hs]) (fun s h=>by rw [mach_ext];exact k148 s) (fun s h hs=>by rw [mach_ext];exact k149 hs) (fun s h hs=>by rw [mach_ext];exact k150 hs) c (by have:=ok.1;omega) ok.2.2.2.1))
theorem k43 (names:List Str) (hs:List Int) (step:Int) (l:List Card):sC S0 43 [.agg (vertC names hs step c1 c2),.vs (cardsC l) l.length cap] h=some ⟨.bool (shortCs names hs l),h,[]⟩:=specC_eq (.cons fc_vert (.cons fc_cards .nil)) (.of (w43 mach_ft (fun l cap h=>by
 rw [mach_ext]
 show specShort [.vs (strs l) l.length cap] h=_
 simp only [specShort,strsAt_vs]) (fun c h=>by rw [mach_ext];exact k87 c) names hs step l))
theorem k102 {a b:Card} (ha:a.off.length<1000) (hb:b.off.length<1000):sC S0 102 [.agg (cardC a),.agg (cardC b)] h=some ⟨.int .i64 (offI a b),h,[]⟩:=specC_eq (.cons (fc_card a) (.cons (fc_card b) .nil)) (.of (w102 mach_ft (fun c i h hi=>by rw [mach_ext];exact k159 hi) (fun a b h=>by rw [mach_ext];exact k157 a b) a b ha hb))
noncomputable def S2:List (Nat×Spec):=(158,sC S1 158)::(156,sC S1 156)::(155,sC S1 155)::(90,sC S1 90)::(195,sC S1 195)::(47,sC S1 47)::S1
theorem S2_ok:ExtOK Tryz.prog gl (extS S2):=tab_cons (sC_ok S1_ok) (tab_cons (sC_ok S1_ok) (tab_cons (sC_ok S1_ok) (tab_cons (sC_ok S1_ok) (tab_cons (sC_ok S1_ok) (tab_cons (sC_ok S1_ok) S1_ok)))))
theorem k158 {c:Card} (ok:okC c):sC S1 158 [.agg (cardC c)] h=some ⟨.int .i64 (totalN c),h,[]⟩:=specC_eq (.cons (fc_card c) .nil) (.of (w158 mach_ft (fun c h hl hH=>by rw [mach_ext];exact k99 hl hH) (fun s h hs=>by rw [mach_ext];exact k149 hs) c (by have:=ok.2.1;omega) ok.2.2.2.1))
theorem k156 {s:Str} (hl:s.length<1000000):sC S1 156 [.str s] h=some ⟨.bool (doneS s),h,[]⟩:=specC_eq (atoms_self rfl) (.of (w156 mach_ft s (fun b h=>by rw [mach_ext];exact k137 hl)))
theorem k155 (s:Str):sC S1 155 [.str s] h=some ⟨.int .i64 (failN s),h,[]⟩:=specC_eq (atoms_self rfl) (.of (w155 mach_ft s (failN s) (fun h=>by rw [mach_ext];exact k196 s)))
theorem k90 {c:Card} (ok:okC c):sC S1 90 [.agg (cardC c)] h=some ⟨.int .i64 (bestI c),h,[]⟩:=specC_eq (.cons (fc_card c) .nil) (.of (w90 mach_ft (fun ars h=>by rw [mach_ext];rfl) (fun s b h hs=>by rw [mach_ext];exact k137 hs) c ok))
theorem k195 {g:FuncId} {p:Str→Bool} {l:List Str} (cg:∀ x∈l,∀ h,(mach Tryz.prog FT S1).ext g [.str x] h=some ⟨.bool (p x),h,[]⟩) (hl:l.length<1000000):sC S1 195 [.vs (strs l) l.length cap,.fn (.func g) [] []] h=some ⟨.int .i64 (idxQ p l 0),h,[]⟩:=
 specC_eq (.cons fc_strs (atoms_self rfl)) (.of (w195 mach_ft cg hl))
theorem k47 {names:List Str} {hs:List Int} {step:Int} {l:List Card} (ok:okL l):sC S1 47 [.agg (vertC names hs step c1 c2),.vs (cardsC l) l.length cap] h=some ⟨.int .i64 (cardsE names hs l),h,[]⟩:=specC_eq (.cons fc_vert (.cons fc_cards .nil)) (.of (w47 mach_ft (fun c h ok=>by rw [mach_ext];exact k96 ok) names hs step l ok.1 ok.2))
noncomputable def S3:List (Nat×Spec):=(100,sC S2 100)::(151,sC S2 151)::(138,sC S2 138)::S2
theorem S3_ok:ExtOK Tryz.prog gl (extS S3):=tab_cons (sC_ok S2_ok) (tab_cons (sC_ok S2_ok) (tab_cons (sC_ok S2_ok) S2_ok))
theorem k99' {c:Card} (ok:okC c):sC S0 99 [.agg (cardC c)] h=some ⟨.int .i64 (bestI c),h,[]⟩:=k99 (by have:=ok.2.1;omega) ok.2.2.2.1
theorem k100 {a b:Card} (ha:okC a) (hb:okC b) (pa:0≤bestI a) (pb:0≤bestI b):sC S2 100 [.agg (cardC a),.agg (cardC b)] h=some ⟨.int .i64 (higherI a b),h,[]⟩:=specC_eq (.cons (fc_card a) (.cons (fc_card b) .nil)) (.of (w100 ⟨mach_ft,fun c h ok=>by rw [mach_ext];exact k99' ok,fun s h hs=>by rw [mach_ext];exact k149 hs,fun a b h=>by rw [mach_ext];exact k157 a b,fun c h ok=>by rw [mach_ext];exact k158 ok⟩ a b ha hb pa pb))
theorem k151 {g:FuncId} {p:Str→Bool} {l:List Str} (cg:∀ x∈l,∀ h,(mach Tryz.prog FT S1).ext g [.str x] h=some ⟨.bool (p x),h,[]⟩) (hl:l.length<1000000):sC S2 151 [.vs (strs l) l.length cap,.fn (.func g) [] []] h=some ⟨.bool (l.any p),h,[]⟩:=
 specC_eq (.cons fc_strs (atoms_self rfl)) (.of (w151 mach_ft l (fun h=>by rw [mach_ext];exact k195 cg hl)))
theorem k138 {c:Card} (ok:okC c) (pb:0≤bestI c):sC S2 138 [.agg (cardC c)] h=some ⟨.agg (ints (scoreL c)),h,[]⟩:=specC_eq (.cons (fc_card c) .nil) (runC_self (w138 mach_ft (fun c h ok=>by rw [mach_ext];exact k90 ok) (fun s h _=>by rw [mach_ext];exact k155 s) c ok pb) rfl rfl rfl)
theorem cfS {T:List (Nat×Spec)} (e64:extS T 64=specWhen) (e63:extS T 63=specRange) (e61:extS T 61=specFirst):CF (mach Tryz.prog FT T) where
 ft:=mach_ft
 c64 _ _ _:=by rw [mach_ext,e64];rfl
 c63 _ _ _ _:=by rw [mach_ext,e63];rfl
 c61 v l h hl hn:=by
  rw [mach_ext,e61]
  simp only [specFirst,hl,if_pos hn]
noncomputable def S4:List (Nat×Spec):=(98,sC S3 98)::(97,sC S3 97)::(91,sC S3 91)::(93,sC S3 93)::S3
theorem S4_ok:ExtOK Tryz.prog gl (extS S4):=tab_cons (sC_ok S3_ok) (tab_cons (sC_ok S3_ok) (tab_cons (sC_ok S3_ok) (tab_cons (sC_ok S3_ok) S3_ok)))
theorem k98 {l:List Card} (ok:okL l):sC S3 98 [.vs (cardsC l) l.length cap] h=some ⟨.vs (ints (firstsL l)) (firstsL l).length none,h,[]⟩:=
 specC_eq (.cons fc_cards .nil) (.new (w98 ⟨mach_ft,fun c h ok=>by rw [mach_ext];exact k99' ok,fun a b h ha hb pa pb=>by rw [mach_ext];exact k100 ha hb pa pb⟩ l ok.1 ok.2) (vtop_ints _) (can_ints _ _))
theorem k97 {c:Card} (ok:okC c):sC S3 97 [.agg (cardC c)] h=some ⟨.int .i64 (formE c),h,[]⟩:=specC_eq (.cons (fc_card c) .nil) (.of (w97 { cfS (T:=S3) rfl rfl rfl with
 c67:=fun s h hs=>by
  rw [mach_ext]
  show specName [.str s] h=_
  simp only [specName,if_pos hs]
 cA:=fun l cap h hl hL=>by
  rw [mach_ext,← any_not]
  exact k151 (fun x hx h=>by rw [mach_ext];exact k152 (by have:=hL x hx;omega)) (by omega)
 cB:=fun l cap h hl hL=>by
  rw [mach_ext,← any_not]
  exact k151 (fun x hx h=>by rw [mach_ext];exact k154 x) (by omega)
 c155:=fun s h _=>by rw [mach_ext];exact k155 s
 c156:=fun s h hs=>by rw [mach_ext];exact k156 hs
 c137:=fun s b h hs=>by rw [mach_ext];exact k137 hs } c ok))
theorem k91 {a b:Card} (ha:okC a) (hb:okC b) (pa:0≤bestI a) (pb:0≤bestI b):sC S3 91 [.agg (cardC a),.agg (cardC b)] h=some ⟨.int .i64 (higherI a b),h,[]⟩:=specC_eq (.cons (fc_card a) (.cons (fc_card b) .nil)) (.of (w91 mach_ft (fun c h ok pb=>by rw [mach_ext];exact k138 ok pb) (fun a b v1 v2 h h1 h2 hl=>by rw [mach_ext];exact k139s h1 h2 hl) a b ha hb pa pb))
theorem k93 {a b:Card} (ha:okC a) (hb:okC b) (oa:a.off.all offOk=true) (ob:b.off.all offOk=true):sC S3 93 [.agg (cardC a),.agg (cardC b)] h=some ⟨.int .i64 (offI a b),h,[]⟩:=specC_eq (.cons (fc_card a) (.cons (fc_card b) .nil)) (.of (w93 mach_ft (fun c i h hi=>by rw [mach_ext];exact k141 hi) (fun x y h=>by rw [mach_ext];exact k142s x y) a b ha.2.2.1 hb.2.2.1 oa ob))
noncomputable def S5:List (Nat×Spec):=(88,sC S4 88)::(51,sC S4 51)::(49,sF S4 49)::(103,sC S4 103)::(48,sC S4 48)::S4
theorem S5_ok:ExtOK Tryz.prog gl (extS S5):=tab_cons (sC_ok S4_ok) (tab_cons (sC_ok S4_ok) (tab_cons (sF_ok S4_ok) (tab_cons (sC_ok S4_ok) (tab_cons (sC_ok S4_ok) S4_ok))))
theorem k88 {l:List Card} (ok:okL l):sC S4 88 [.vs (cardsC l) l.length cap] h=some ⟨.vs (ints (firstsL l)) (firstsL l).length none,h,[]⟩:=
 specC_eq (.cons fc_cards .nil) (.new (w88 mach_ft (fun c h ok=>by rw [mach_ext];exact k90 ok) (fun a b h ha hb pa pb=>by rw [mach_ext];exact k91 ha hb pa pb) l ok.1 ok.2 (fun c hc=>okC_sm (ok.2 c hc))) (vtop_ints _) (can_ints _ _))
theorem k51 {l:List Card} (ok:okL l):sC S4 51 [.vs (cardsC l) l.length cap] h=some ⟨.bool (decide (0<(firstsL l).length)),h,[]⟩:=specC_eq (.cons fc_cards .nil) (.of (w51 mach_ft l ok.1 (fun h=>by rw [mach_ext];exact k98 ok)))
theorem k49 {names:List Str} {hs:List Int} {step:Int} {l:List Card} (ok:okL l) (okv:OkV hs step l):sF S4 49 [.agg (vertC names hs step c1 c2),.vs (cardsC l) l.length cap] h=some ⟨.vs (placesC (orderP (standS hs l))) (orderP (standS hs l)).length none,h,[]⟩:=by
 obtain ⟨v,hh,⟨B,h1⟩,h2⟩:=w49 (M:=mach Tryz.prog FT S4) (c1:=c1) (c2:=c2) (cap:=cap) ⟨⟨mach_ft,fun c h ok=>by rw [mach_ext];exact k99' ok,fun a b h ha hb pa pb=>by rw [mach_ext];exact k100 ha hb pa pb⟩,fun l cap h hl hL=>by rw [mach_ext];exact k98 ⟨hl,hL⟩,fun l n h hl=>by rw [mach_ext];exact k101 hl,fun a b h ha hb=>by rw [mach_ext];exact k102 ha hb,fun idle ret h=>by rw [mach_ext];exact k79 idle ret,fun P v h hs hP=>by rw [mach_ext];exact k80 hs hP⟩ names hs step l ok.1 ok.2 (fun c hc=>(okv.cd c hc).2)
 exact specF_eq ⟨v,hh,B,h2,h1,top_vc,vtop_places _,can_places _ _⟩
theorem okv_first {hs:List Int} {step:Int} {l:List Card} (okv:OkV hs step l) (h0:firstsL l≠[]):bestI (first0 l)<hs.length∧(0≤step∧step≤1000)∧(0≤hs[(bestI (first0 l)).toNat]! ∧ hs[(bestI (first0 l)).toNat]! ≤ 1000000):=by
 obtain ⟨f1,f2,f3⟩:=first0_best h0
 have hm:=first0_mem h0
 have h1:=(okv.cd _ hm).2
 have h2:=(bestI_lt (first0 l)).2
 have hg:=okv.hg hs[(bestI (first0 l)).toNat]! (by rw [getElem!_pos hs _ (by omega)];exact List.getElem_mem _)
 have hst:=okv.st
 exact ⟨by omega,by omega,by omega⟩
theorem k103 {names:List Str} {hs:List Int} {step:Int} {l:List Card} {r:Nat} (ok:okL l) (okv:OkV hs step l) (h0:firstsL l≠[]) (hr:r<1000):sC S4 103 [.agg (vertC names hs step c1 c2),.vs (cardsC l) l.length cap,.int .i64 r] h=some ⟨.int .i64 (offH hs step l r),h,[]⟩:=by
 obtain ⟨b1,b2,b3⟩:=okv_first okv h0
 exact specC_eq (.cons fc_vert (.cons fc_cards (atoms_self rfl))) (.of (w103 mach_ft (fun c h ok=>by rw [mach_ext];exact k99' ok) names hs step l r ok.1 ok.2 hr (fun h=>by rw [mach_ext];exact k98 ok) h0 b1 b2 b3))
theorem k48 {names:List Str} {hs:List Int} {step:Int} {l:List Card} (ok:okL l) (on:okN names hs):sC S4 48 [.agg (vertC names hs step c1 c2),.vs (cardsC l) l.length cap] h=some ⟨.int .i64 (vcE names hs step l),h,[]⟩:=
 specC_eq (.cons fc_vert (.cons fc_cards .nil)) (.of (w48 (cfS (T:=S4) rfl rfl rfl) (fun l hs s c1 c2 h hl hL hh=>by rw [mach_ext];exact vertical_vs hl hL hh) (fun c h ok=>by rw [mach_ext];exact k97 ok) names hs step l ok.1 ok.2 on.1 on.2.1 on.2.2))
theorem calls_ro5:CRo (mach Tryz.prog FT S5) where
 ft:=mach_ft
 n143 ars h:=by rw [mach_ext];rfl
 n193 ars h:=by rw [mach_ext];rfl
 n229 ars h:=by rw [mach_ext];rfl
 n230 ars h:=by rw [mach_ext];rfl
 n253 ars h:=by rw [mach_ext];rfl
 n284 ars h:=by rw [mach_ext];rfl
 n94 ars h:=by rw [mach_ext];rfl
 c144 p q h:=by rw [mach_ext];exact k144s p q
noncomputable def S6:List (Nat×Spec):=(95,sC S5 95)::(53,sC S5 53)::(44,sF S5 44)::S5
theorem S6_ok:ExtOK Tryz.prog gl (extS S6):=tab_cons (sC_ok S5_ok) (tab_cons (sC_ok S5_ok) (tab_cons (sF_ok S5_ok) S5_ok))
theorem k95 {names:List Str} {hs:List Int} {step:Int} {l:List Card} (ok:okL l) (okv:OkV hs step l) (h0:firstsL l≠[]):sC S5 95 [.agg (vertC names hs step c1 c2),.vs (cardsC l) l.length cap,.int .i64 (roundsN l)] h=some ⟨.vs (ints (offHs hs step l)) (offHs hs step l).length none,h,[]⟩:=by
 obtain ⟨b1,b2,b3⟩:=okv_first okv h0
 exact specC_eq (.cons fc_vert (.cons fc_cards (atoms_self rfl))) (.new (w95 ⟨mach_ft,fun ars h=>by rw [mach_ext];rfl,fun ars h=>by rw [mach_ext];rfl,fun ars h=>by rw [mach_ext];rfl,fun c h ok=>by rw [mach_ext];exact k90 ok,fun l cap h hl hL=>by rw [mach_ext];exact k88 ⟨hl,hL⟩⟩ names hs step l (roundsN l) ok.1 ok.2 (rounds_lt ok.2) h0 b1 b2 b3) (vtop_ints _) (can_ints _ _))
theorem k53 {names:List Str} {hs:List Int} {step:Int} {l:List Card} (ok:okL l) (okv:OkV hs step l) (h0:firstsL l≠[]):sC S5 53 [.agg (vertC names hs step c1 c2),.vs (cardsC l) l.length cap] h=some ⟨.vs (ints (offHs hs step l)) (offHs hs step l).length none,h,[]⟩:=
 specC_eq (.cons fc_vert (.cons fc_cards .nil)) (.new (w53 mach_ft names hs step l ok.2 (fun h=>by rw [mach_ext];exact k50 ok) (fun r h hr=>by rw [mach_ext];exact k103 ok okv h0 hr)) (vtop_ints _) (can_ints _ _))
theorem stand_top {names:List Str} {hs:List Int} {step:Int} {l:List Card}:(standRes names hs step l).top=0:=by
 unfold standRes
 split
 · rfl
 · show topL [_,_]=0
   simp only [topL,vtop_places];rfl
theorem stand_can {names:List Str} {hs:List Int} {step:Int} {l:List Card}:canA (standRes names hs step l)=standRes names hs step l:=by
 unfold standRes
 split
 · rfl
 · simp only [canA,canL]
   exact congrArg (fun x=>AV.tup [x,_]) (can_places _ _)
theorem off_top {names:List Str} {hs:List Int} {step:Int} {l:List Card}:(offRes names hs step l).top=0:=by
 unfold offRes
 split
 · rfl
 · split
   · rfl
   · show topL [_,_]=0
     simp only [topL,vtop_ints];rfl
theorem off_can {names:List Str} {hs:List Int} {step:Int} {l:List Card}:canA (offRes names hs step l)=offRes names hs step l:=by
 unfold offRes
 split
 · rfl
 · split
   · rfl
   · simp only [canA,canL]
     exact congrArg (fun x=>AV.tup [x,_]) (can_ints _ _)
theorem k44 {names:List Str} {hs:List Int} {step:Int} {l:List Card} (ok:okL l) (on:okN names hs):sF S5 44 [.agg (vertC names hs step c1 c2),.vs (cardsC l) l.length cap] h=some ⟨standRes names hs step l,h,[]⟩:=by
 obtain ⟨v,hh,⟨B,h1⟩,h2⟩:=w44 (M:=mach Tryz.prog FT S5) (c1:=c1) (c2:=c2) (cap:=cap) { calls_ro5 with
  c89:=fun st ret h=>by rw [mach_ext];exact k89 st ret
  c48:=fun names hs step l c1 c2 cap h hl hL hn hN hh=>by rw [mach_ext];exact k48 ⟨hl,hL⟩ ⟨hn,hN,hh⟩
  c88:=fun l cap h hl hL=>by rw [mach_ext];exact k88 ⟨hl,hL⟩
  c90:=fun c h ok=>by rw [mach_ext];exact k90 ok
  c91:=fun a b h ha hb pa pb=>by rw [mach_ext];exact k91 ha hb pa pb
  c92:=fun l x h hl=>by rw [mach_ext];exact k92 hl
  c93:=fun a b h ha hb oa ob=>by rw [mach_ext];exact k93 ha hb oa ob } names hs step l ok.1 ok.2 on.1 on.2.1 on.2.2
 exact specF_eq ⟨v,hh,B,h2,h1,top_vc,stand_top,stand_can⟩
noncomputable def S7:List (Nat×Spec):=(46,sF S6 46)::S6
theorem S7_ok:ExtOK Tryz.prog gl (extS S7):=tab_cons (sF_ok S6_ok) S6_ok
theorem k46 {names:List Str} {hs:List Int} {step:Int} {l:List Card} (ok:okL l) (on:okN names hs):sF S6 46 [.agg (vertC names hs step c1 c2),.vs (cardsC l) l.length cap] h=some ⟨offRes names hs step l,h,[]⟩:=by
 obtain ⟨v,hh,⟨B,h1⟩,h2⟩:=w46 (M:=mach Tryz.prog FT S6) (c1:=c1) (c2:=c2) (cap:=cap) ⟨⟨mach_ft,fun names hs step l c1 c2 cap h hl hL hn hN hh=>by rw [mach_ext];exact k48 ⟨hl,hL⟩ ⟨hn,hN,hh⟩,fun l cap h hl hL=>by rw [mach_ext];exact k88 ⟨hl,hL⟩⟩,fun names hs step l c1 c2 cap h hl hL okv h0=>by rw [mach_ext];exact k95 ⟨hl,hL⟩ okv h0⟩ names hs step l ok.1 ok.2 on.1 on.2.1 on.2.2
 exact specF_eq ⟨v,hh,B,h2,h1,top_vc,off_top,off_can⟩
theorem calls8:C8 (mach Tryz.prog FT S7) where
 ft:=mach_ft
 c10 h:=by rw [mach_ext];rfl
 c43 names hs step l h:=by rw [mach_ext];exact k43 names hs step l
 c45 l h ok:=by rw [mach_ext];exact k45 ok
 c44 names hs step l h ok on:=by rw [mach_ext];exact k44 ok on
 c46 names hs step l h ok on:=by rw [mach_ext];exact k46 ok on
 c14 names hs step h on:=by rw [mach_ext];exact vertical_vs on.1 on.2.1 on.2.2
 c47 names hs step l h ok:=by rw [mach_ext];exact k47 ok
 c48 names hs step l h ok on:=by rw [mach_ext];exact k48 ok on
 c49 names hs step l h ok okv:=by rw [mach_ext];exact k49 ok okv
 c29 P v h hs hP:=by rw [mach_ext];exact k29 hs hP
 c30 P h hP:=by rw [mach_ext];exact k30 hP
 c50 l h ok:=by rw [mach_ext];exact k50 ok
 c51 l h ok:=by rw [mach_ext];exact k51 ok
 c53 names hs step l h ok okv h0:=by rw [mach_ext];exact k53 ok okv h0
 c52 l h hl:=by rw [mach_ext];exact k52 hl
end Go.Ab.Ch6

/-
  Own work: arguments that are contests, as the abstract machine sees them.
-/
namespace Go.Ab.Ch6
open Go.Proofs
open Go.ChangeShapes Go.WideShapes Go.RowKit
variable {H:Type} {enc:TypeId×Value→H} {P:Program} {W:World} {base:Nat} {sp:Nat→Bool} {t e:TypeId} {v:Value} {d:DataW H} {ps:List MemPlace}
end Go.Ab.Ch6
