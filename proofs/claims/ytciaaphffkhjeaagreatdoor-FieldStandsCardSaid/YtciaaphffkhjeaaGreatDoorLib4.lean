/-
  Own work: slices.SortStableFunc over arr (pf PL): the merge in place, by induction.
-/
import Derived.Test.YtciaaphffkhjeaaGreatDoorLib3
import Derived.Test.YtciaaphffkhjeaaGreatDoorCh6Base
import Derived.Test.YtciaaphffkhjeaaGreatDoorLib2
namespace Go.Ab.Ch6.Srp
open Go.Ab.Sort
variable {PL:List Place} {M:Mach} {h:Heap} {b n:Nat} {cap:Option Nat} {g:AV}
variable {key:Int→Int} {ok:Int→Prop} {cf:Int→Int→Int}
theorem take_get {R:List Int} {k:Nat} {y:Int} (h:R[k]? = some y):R[k]! = y:=by
 rw [List.getElem!_eq_getElem?_getD,h];rfl
theorem m230_a (C:CSp M) (hb:b<h.length) (hn:n<2305843009213693952) (hc:Cmpp PL M h b g ok cf) (hcf:∀ x y,ok x→ok y→(cf x y<0↔key y<key x)) (A:List Int) (x:Int) (R B:List Int) (hR0:R≠[]) (hl:(A++[x]++R++B).length=n) (hR:Sd key R) (hlt:∀ y∈R,x<y) (hx:ok x) (ho:∀ y∈R,ok y) :
 Mrgp PL M h b n cap g key A [x] R B:=by
 have hl':A.length+1+R.length+B.length=n:=by simp at hl;omega
 have h0:([x]:List Int).length=1:=rfl
 have hRl:0<R.length:=List.length_pos_iff.2 hR0
 have gR:∀ i,i<R.length→(A++[x]++R++B)[A.length+[x].length+i]! = R[i]! := fun i hi=>atR hi
 have ga:(A++[x]++R++B)[A.length]! = x:=atL (i:=0) (by simp)
 have D:∀ i,i<R.length→(cf R[i]! x<0↔Lt key R[i]! x):=fun i hi=>(hcf _ _ (ho _ (getD_mem hi)) hx).trans (Lt.iff (hlt _ (getD_mem hi))).symm
 have split:∀ k,A.length+[x].length≤k→k<A.length+[x].length+R.length→∃ i,i<R.length∧k=A.length+[x].length+i:=fun k h1 h2=>⟨k-(A.length+[x].length),by omega,by omega⟩
 obtain ⟨l',wr,hw,⟨S,rfl,g2,g3⟩,hr⟩:=run_put (M:=M) (l:=A++[x]++R++B) (e:=116) (f:=pf PL) (P:=fun l'=>∃ S,l'=A++S++B∧Sd key S∧S.Perm ([x]++R))
  (ars:=[.sl b 0 n 5 cap,.int .i64 A.length,.int .i64 (A.length+[x].length:Nat),.int .i64 (A.length+[x].length+R.length:Nat),g]) (by rw [C.ft];exact ft230) (by simp) hb (fun _=>rfl) (by
   unfold b230
   simp only [enter]
   repeat' first|apply W.seq|apply SQn|apply W.region|apply WO.nil|apply W.block|(apply W.condT;rfl)|(apply WO.eql;rfl;rfl;all_goals first|(intro _;exfalso;omega)|intro _)|(apply WO.sub;rfl;rfl;omega)|(apply WO.pl;rfl;rfl)|(apply WO.pp;rfl;rfl)
   refine loop230_0 hn hb hc (A++[x]++R++B) hl A.length (A.length+[x].length) (A.length+[x].length+R.length) (by omega) (by omega) (fun k h1 h2=>?_) (by rw [ga];exact hx) _ _ _ _ _ _ _ _ _ _ _ _ _ _ _ (fun k k' h1 h2 h3 h4=>?_) R.length (A.length+[x].length) (A.length+[x].length+R.length) _ _ (by omega) (Nat.le_refl _) (by omega) (Nat.le_refl _) (fun k h1 h2=>by omega) (fun k h1 h2=>by omega) (fun i a7 lo h1 h2 h3 h4=>?_)
   · obtain ⟨i,hi,rfl⟩:=split k h1 h2
     rw [gR i hi];exact ho _ (getD_mem hi)
   · obtain ⟨i,hi,rfl⟩:=split k h1 (by omega)
     obtain ⟨j,hj,rfl⟩:=split k' (by omega) h3
     rw [gR j hj,ga] at h4
     rw [gR i hi,ga]
     exact (D i hi).2 ((sd_get hR (by omega) hj).trans ((D j hj).1 h4))
   · obtain ⟨i,hi,rfl⟩:∃ j,j≤R.length∧i=A.length+[x].length+j:=⟨i-(A.length+[x].length),by omega,by omega⟩
     have hs:Sd key (R.take i++x::R.drop i):=by
      refine one_left hR (fun k y hk hy=>?_) (fun k y hk hy=>?_)
      · have hkl:=(List.getElem?_eq_some_iff.1 hy).1
        have:=h3 (A.length+[x].length+k) (by omega) (by omega)
        rw [gR k hkl,ga] at this
        rw [← take_get hy];exact (D k hkl).1 this
      · have hkl:=(List.getElem?_eq_some_iff.1 hy).1
        have:=h4 (A.length+[x].length+k) (by omega) (by omega)
        rw [gR k hkl,ga,D k hkl] at this
        rw [← take_get hy];exact Lt.tot (hlt _ (getD_mem hkl)) this
     have hti:(R.take i).length=i:=by rw [List.length_take];omega
     repeat' first|apply W.seq|apply SQn|apply W.region|apply WO.nil|apply W.block|apply BQe|(apply WO.pl;rfl;rfl)|(apply WO.pp;rfl;rfl)
     rw [show A++[x]++R++B=A++x::(R.take i++(R.drop i++B)) by rw [← List.append_assoc (R.take i),List.take_append_drop];simp]
     refine loop230_1 hn hb x (R.drop i++B) (A.length+[x].length+i) _ _ _ _ _ _ _ _ _ _ _ _ _ _ _ _ (R.take i) A _ _ (by omega) (by simp;omega) Only.nil (fun a8 lo wr L k1 k2=>?_)
     repeat' first|apply SQn|apply W.ret|apply SQr|apply BQe
     exact ⟨.inr rfl,rfl,L,rfl,k1,R.take i++x::R.drop i,by rw [k2];simp,hs,by
      have:=List.perm_middle (a:=x) (l₁:=R.take i) (l₂:=R.drop i)
      rwa [List.take_append_drop] at this⟩)
 exact ⟨S,wr,hw,⟨g2,g3⟩,ct_of_run C.n230 hr⟩
theorem m230_b (C:CSp M) (hb:b<h.length) (hn:n<2305843009213693952) (hc:Cmpp PL M h b g ok cf) (hcf:∀ x y,ok x→ok y→(cf x y<0↔key y<key x)) (A L:List Int) (y:Int) (B:List Int) (hL0:1<L.length) (hl:(A++L++[y]++B).length=n) (hL:Sd key L) (hlt:∀ x∈L,x<y) (hy:ok y) (ho:∀ x∈L,ok x) :
 Mrgp PL M h b n cap g key A L [y] B:=by
 have hl':A.length+L.length+1+B.length=n:=by simp at hl;omega
 have h0:([y]:List Int).length=1:=rfl
 have gL:∀ i,i<L.length→(A++L++[y]++B)[A.length+i]! = L[i]! := fun i hi=>atL hi
 have gm:(A++L++[y]++B)[A.length+L.length]! = y:=atR (i:=0) (by simp)
 have D:∀ i,i<L.length→(cf y L[i]! < 0↔Lt key y L[i]!):=fun i hi=>(hcf _ _ hy (ho _ (getD_mem hi))).trans (Lt.iff (hlt _ (getD_mem hi))).symm
 have split:∀ k,A.length≤k→k<A.length+L.length→∃ i,i<L.length∧k=A.length+i:=fun k h1 h2=>⟨k-A.length,by omega,by omega⟩
 obtain ⟨l',wr,hw,⟨S,rfl,g2,g3⟩,hr⟩:=run_put (M:=M) (l:=A++L++[y]++B) (e:=116) (f:=pf PL) (P:=fun l'=>∃ S,l'=A++S++B∧Sd key S∧S.Perm (L++[y]))
  (ars:=[.sl b 0 n 5 cap,.int .i64 A.length,.int .i64 (A.length+L.length:Nat),.int .i64 (A.length+L.length+[y].length:Nat),g]) (by rw [C.ft];exact ft230) (by simp) hb (fun _=>rfl) (by
   unfold b230
   simp only [enter]
   repeat' first|apply W.seq|apply SQn|apply W.region|apply WO.nil|apply W.block|apply W.skip|(apply W.condT;rfl)|(apply W.condF;rfl)|(apply WO.eql;rfl;rfl;all_goals first|(intro _;exfalso;omega)|intro _)|(apply WO.sub;rfl;rfl;omega)|(apply WO.pl;rfl;rfl)|(apply WO.pp;rfl;rfl)
   refine loop230_2 hn hb hc (A++L++[y]++B) hl (A.length+L.length) A.length (A.length+L.length) (by omega) (by omega) (fun k h1 h2=>?_) (by rw [gm];exact hy) _ _ _ _ _ _ _ _ _ _ _ _ _ _ _ (fun k k' h1 h2 h3 h4=>?_) L.length A.length (A.length+L.length) _ _ (by omega) (Nat.le_refl _) (by omega) (Nat.le_refl _) (fun k h1 h2=>by omega) (fun k h1 h2=>by omega) (fun i a11 lo h1 h2 h3 h4=>?_)
   · obtain ⟨i,hi,rfl⟩:=split k h1 h2
     rw [gL i hi];exact ho _ (getD_mem hi)
   · obtain ⟨i,hi,rfl⟩:=split k h1 (by omega)
     obtain ⟨j,hj,rfl⟩:=split k' (by omega) h3
     rw [gL j hj,gm] at h4
     rw [gL i hi,gm]
     exact fun h=>h4 ((D j hj).2 (((D i hi).1 h).trans (sd_get hL (by omega) hj)))
   · obtain ⟨i,hi,rfl⟩:∃ j,j≤L.length∧i=A.length+j:=⟨i-A.length,by omega,by omega⟩
     have hs:Sd key (L.take i++y::L.drop i):=by
      refine one_left hL (fun k z hk hz=>?_) (fun k z hk hz=>?_)
      · have hkl:=(List.getElem?_eq_some_iff.1 hz).1
        have:=h3 (A.length+k) (by omega) (by omega)
        rw [gL k hkl,gm,D k hkl] at this
        rw [← take_get hz];exact Lt.tot (hlt _ (getD_mem hkl)) this
      · have hkl:=(List.getElem?_eq_some_iff.1 hz).1
        have:=h4 (A.length+k) (by omega) (by omega)
        rw [gL k hkl,gm] at this
        rw [← take_get hz];exact (D k hkl).1 this
     have hti:(L.take i).length=i:=by rw [List.length_take];omega
     have htd:(L.drop i).length=L.length-i:=List.length_drop
     repeat' first|apply W.seq|apply SQn|apply W.region|apply WO.nil|apply W.block|apply BQe|(apply WO.pl;rfl;rfl)|(apply WO.pp;rfl;rfl)
     rw [show A++L++[y]++B=(A++L.take i)++L.drop i++y::B by rw [List.append_assoc A (L.take i),List.take_append_drop];simp]
     rw [show ((A.length+i:Nat):Int)=((A++L.take i).length:Int) by rw [List.length_append,hti],show ((A.length+L.length:Nat):Int)=(((A++L.take i).length+(L.drop i).length:Nat):Int) by rw [List.length_append,hti,htd];omega]
     refine loop230_3 hn hb y (A++L.take i) _ _ _ _ _ _ _ _ _ _ _ _ _ _ _ _ (L.drop i).length (L.drop i) B _ _ rfl (by simp;omega) Only.nil (fun a12 lo wr L' k1 k2=>?_)
     repeat' first|apply SQn|apply W.ret|apply SQr|apply BQe
     exact ⟨.inr rfl,rfl,L',rfl,k1,L.take i++y::L.drop i,by rw [k2];simp,hs,by
      have:=List.perm_middle (a:=y) (l₁:=L.take i) (l₂:=L.drop i)
      rw [List.take_append_drop] at this
      exact this.trans (List.perm_append_comm (l₁:=[y]) (l₂:=L))⟩)
 exact ⟨S,wr,hw,⟨g2,g3⟩,ct_of_run C.n230 hr⟩
def t230_0:ICode:=
 .seq (.region [⟨(.l 175),.mv (.p 14),none⟩,
    ⟨(.l 176),.mv (.p 15),none⟩,
    ⟨(.l 177),.bin .sub (.l 175) (.l 176),none⟩,
    ⟨(.p 19),.mv (.l 177),none⟩])
  (.seq t230_1 (.seq t230_2 t230_3))
set_option maxHeartbeats 4000000 in
theorem m230 (C:CSp M) (hb:b<h.length) (hn:n<2305843009213693952) (hc:Cmpp PL M h b g ok cf) (hcf:∀ x y,ok x→ok y→(cf x y<0↔key y<key x)):∀ (k:Nat) (A L R B:List Int),L.length+R.length≤k→L≠[]→R≠[]→(A++L++R++B).length=n→Sd key L→Sd key R→(∀ x∈L,∀ y∈R,x<y)→(∀ x∈L,ok x)→(∀ y∈R,ok y)→Mrgp PL M h b n cap g key A L R B
 | 0,A,L,R,B,hk,hL0,hR0,hl,hL,hR,hlt,ho,ho'=>absurd (List.length_eq_zero_iff.1 (by omega)) hL0
 | k+1,A,L,R,B,hk,hL0,hR0,hl,hL,hR,hlt,ho,ho'=>by
  have hLl:0<L.length:=List.length_pos_iff.2 hL0
  have hRl:0<R.length:=List.length_pos_iff.2 hR0
  have hl':A.length+L.length+R.length+B.length=n:=by simp at hl;omega
  by_cases c1:L.length=1
  · obtain ⟨x,rfl⟩:=List.length_eq_one_iff.1 c1
    exact m230_a C hb hn hc hcf A x R B hR0 hl hR (hlt x (by simp)) (ho x (by simp)) ho'
  by_cases c2:R.length=1
  · obtain ⟨y,rfl⟩:=List.length_eq_one_iff.1 c2
    exact m230_b C hb hn hc hcf A L y B (by omega) hl hL (fun x hx=>hlt x hx y (by simp)) (ho' y (by simp)) ho
  have gL:∀ i,i<L.length→(A++L++R++B)[A.length+i]! = L[i]! := fun i hi=>atL hi
  have gR:∀ i,i<R.length→(A++L++R++B)[A.length+L.length+i]! = R[i]! := fun i hi=>atR hi
  obtain ⟨a,ea⟩:∃ a,a=A.length:=⟨_,rfl⟩
  obtain ⟨m,em⟩:∃ m,m=A.length+L.length:=⟨_,rfl⟩
  obtain ⟨e,ee⟩:∃ e,e=A.length+L.length+R.length:=⟨_,rfl⟩
  obtain ⟨mid,emid⟩:∃ mid,mid=(a+e)/2:=⟨_,rfl⟩
  -- what the search compares: a place of the left list, and its counterpart in the right one
  have D:∀ c,a≤c→c<m→m≤mid+m-1-c→mid+m-1-c<e→ok (A++L++R++B)[c]! ∧ ok (A++L++R++B)[mid+m-1-c]! ∧ (cf (A++L++R++B)[mid+m-1-c]! (A++L++R++B)[c]! < 0↔Lt key (A++L++R++B)[mid+m-1-c]! (A++L++R++B)[c]!)∧(A++L++R++B)[c]! < (A++L++R++B)[mid+m-1-c]! := by
   intro c h1 h2 h3 h4
   obtain ⟨i,hi,rfl⟩:∃ i,i<L.length∧c=A.length+i:=⟨c-A.length,by omega,by omega⟩
   obtain ⟨j,hj,ej⟩:∃ j,j<R.length∧mid+m-1-(A.length+i)=A.length+L.length+j:=⟨mid+m-1-(A.length+i)-(A.length+L.length),by omega,by omega⟩
   rw [ej,gL i hi,gR j hj]
   have hxy:=hlt _ (getD_mem hi) _ (getD_mem hj)
   exact ⟨ho _ (getD_mem hi),ho' _ (getD_mem hj),(hcf _ _ (ho' _ (getD_mem hj)) (ho _ (getD_mem hi))).trans (Lt.iff hxy).symm,hxy⟩
  have sL:∀ c c',a≤c→c<c'→c'<m→Lt key (A++L++R++B)[c]! (A++L++R++B)[c']! := by
   intro c c' h1 h2 h3
   obtain ⟨i,hi,rfl⟩:∃ i,i<L.length∧c=A.length+i:=⟨c-A.length,by omega,by omega⟩
   obtain ⟨j,hj,rfl⟩:∃ j,j<L.length∧c'=A.length+j:=⟨c'-A.length,by omega,by omega⟩
   rw [gL i hi,gL j hj];exact sd_get hL (by omega) hj
  have sR:∀ c c',m≤c→c<c'→c'<e→Lt key (A++L++R++B)[c]! (A++L++R++B)[c']! := by
   intro c c' h1 h2 h3
   obtain ⟨i,hi,rfl⟩:∃ i,i<R.length∧c=A.length+L.length+i:=⟨c-(A.length+L.length),by omega,by omega⟩
   obtain ⟨j,hj,rfl⟩:∃ j,j<R.length∧c'=A.length+L.length+j:=⟨c'-(A.length+L.length),by omega,by omega⟩
   rw [gR i hi,gR j hj];exact sd_get hR (by omega) hj
  -- behind the search
  have key1:∀ (s0 r0 st:Nat),(m≤mid∧s0=a∧r0=m∨mid<m∧s0=mid+m-e∧r0=mid)→s0≤st→st≤r0→(∀ c,s0≤c→c<st→¬ cf (A++L++R++B)[mid+m-1-c]! (A++L++R++B)[c]! < 0)→(∀ c,st≤c→c<r0→cf (A++L++R++B)[mid+m-1-c]! (A++L++R++B)[c]! < 0) →
   a≤st∧st≤m∧m≤mid+m-st∧mid+m-st≤e∧∀ x∈L.take (st-a)++R.take (mid-st),∀ y∈L.drop (st-a)++R.drop (mid-st),Lt key x y:=by
   intro s0 r0 st hs h1 h2 h3 h4
   have hb':a≤st∧st≤m∧m≤mid+m-st∧mid+m-st≤e:=by omega
   refine ⟨hb'.1,hb'.2.1,hb'.2.2.1,hb'.2.2.2,sym_cross (by rw [List.take_append_drop];exact hL) (by rw [List.take_append_drop];exact hR) (fun x y hx hy=>?_) (fun x y hx hy=>?_)⟩
   · have hlen:0<(L.take (st-a)).length:=by
      cases hz:L.take (st-a) with
      | nil=>rw [hz] at hx;cases hx
      | cons _ _=>simp
     rw [List.length_take] at hlen
     rw [List.getLast?_eq_getElem?,List.length_take,List.getElem?_take,if_pos (by omega)] at hx
     rw [List.head?_eq_getElem?,List.getElem?_drop] at hy
     have hyl:=(List.getElem?_eq_some_iff.1 hy).1
     have q:=h3 (st-1) (by omega) (by omega)
     obtain ⟨_,_,q2,q3⟩:=D (st-1) (by omega) (by omega) (by omega) (by omega)
     rw [q2] at q
     have q4:=Lt.tot q3 q
     rw [show st-1=A.length+(min (st-a) L.length-1) by omega,gL _ (by omega),show mid+m-1-(A.length+(min (st-a) L.length-1))=A.length+L.length+(mid-st+0) by omega,gR _ (by omega),take_get hx,take_get hy] at q4
     exact q4
   · have hlen:0<(R.take (mid-st)).length:=by
      cases hz:R.take (mid-st) with
      | nil=>rw [hz] at hy;cases hy
      | cons _ _=>simp
     rw [List.length_take] at hlen
     rw [List.getLast?_eq_getElem?,List.length_take,List.getElem?_take,if_pos (by omega)] at hy
     rw [List.head?_eq_getElem?,List.getElem?_drop] at hx
     have hxl:=(List.getElem?_eq_some_iff.1 hx).1
     have q:=h4 st (by omega) (by omega)
     obtain ⟨_,_,q2,q3⟩:=D st (by omega) (by omega) (by omega) (by omega)
     rw [q2] at q
     rw [show st=A.length+(st-a+0) by omega,gL _ (by omega),show mid+m-1-(A.length+(st-a+0))=A.length+L.length+(min (mid-st) R.length-1) by omega,gR _ (by omega),take_get hx,take_get hy] at q
     exact q
  have mono:∀ (s0 r0:Nat),(m≤mid∧s0=a∧r0=m∨mid<m∧s0=mid+m-e∧r0=mid)→∀ c c',s0≤c→c<c'→c'<r0→¬ cf (A++L++R++B)[mid+m-1-c']! (A++L++R++B)[c']! < 0→¬ cf (A++L++R++B)[mid+m-1-c]! (A++L++R++B)[c]! < 0:=by
   intro s0 r0 hs c c' h1 h2 h3 h4 h5
   obtain ⟨_,_,q2,_⟩:=D c (by omega) (by omega) (by omega) (by omega)
   obtain ⟨_,_,q2',_⟩:=D c' (by omega) (by omega) (by omega) (by omega)
   rw [q2'] at h4
   rw [q2] at h5
   exact h4 (((sR _ _ (by omega) (by omega) (by omega)).trans h5).trans (sL c c' (by omega) h2 (by omega)))
  have E1:((A.length:Int)+((A.length+L.length+R.length:Nat):Int))/2=(mid:Int):=by omega
  have E2:(mid:Int)+((A.length+L.length:Nat):Int)=((mid+m:Nat):Int):=by omega
  have E3:((mid+m:Nat):Int)-1=((mid+m-1:Nat):Int):=by omega
  obtain ⟨l',wr,hw,⟨S,rfl,g2,g3⟩,hr⟩:=run_put (M:=M) (l:=A++L++R++B) (e:=116) (f:=pf PL) (P:=fun l'=>∃ S,l'=A++S++B∧Sd key S∧S.Perm (L++R))
   (ars:=[.sl b 0 n 5 cap,.int .i64 A.length,.int .i64 (A.length+L.length:Nat),.int .i64 (A.length+L.length+R.length:Nat),g]) (by rw [C.ft];exact ft230) (by simp) hb (fun _=>rfl) (by
    have finish:∀ (s0 r0 st:Nat),(m≤mid∧s0=a∧r0=m∨mid<m∧s0=mid+m-e∧r0=mid)→s0≤st→st≤r0→(∀ c,s0≤c→c<st→¬ cf (A++L++R++B)[mid+m-1-c]! (A++L++R++B)[c]! < 0)→(∀ c,st≤c→c<r0→cf (A++L++R++B)[mid+m-1-c]! (A++L++R++B)[c]! < 0) →
     ∀ (a5 a6 a7 a8 a9 a10 a11 a12 a16 a17 a18 a19:AV) (lo:List (Nat×AV)),W M t230_0 ⟨⟨[.sl b 0 n 5 cap,.int .i64 A.length,.int .i64 (A.length+L.length:Nat),.int .i64 (A.length+L.length+R.length:Nat),g,a5,a6,a7,a8,a9,a10,a11,a12,.int .i64 mid,.int .i64 (mid+m:Nat),.int .i64 st,a16,a17,a18,a19],lo,h.put b (some (.cells (arr (pf PL) (A++L++R++B)) 116)),[]⟩,[]⟩
      fun x s=>(x = .normal∨x = .ret)∧s.s.dfs=[]∧∃ l',s.s.hp=h.put b (some (.cells (arr (pf PL) l') 116))∧Only b s.wr∧∃ S,l'=A++S++B∧Sd key S∧S.Perm (L++R):=by
     intro s0 r0 st hs h1 h2 h3 h4 a5 a6 a7 a8 a9 a10 a11 a12 a16 a17 a18 a19 lo
     obtain ⟨k1,k2,k3,k4,k5⟩:=key1 s0 r0 st hs h1 h2 h3 h4
     obtain ⟨L1,hL1⟩:∃ x,x=L.take (st-a):=⟨_,rfl⟩
     obtain ⟨L2,hL2⟩:∃ x,x=L.drop (st-a):=⟨_,rfl⟩
     obtain ⟨R1,hR1⟩:∃ x,x=R.take (mid-st):=⟨_,rfl⟩
     obtain ⟨R2,hR2⟩:∃ x,x=R.drop (mid-st):=⟨_,rfl⟩
     have eL:L=L1++L2:=by rw [hL1,hL2,List.take_append_drop]
     have eR:R=R1++R2:=by rw [hR1,hR2,List.take_append_drop]
     have nL1:L1.length=st-a:=by rw [hL1,List.length_take];omega
     have nL2:L2.length=m-st:=by rw [hL2,List.length_drop];omega
     have nR1:R1.length=mid-st:=by rw [hR1,List.length_take];omega
     have nR2:R2.length=e-(mid+m-st):=by rw [hR2,List.length_drop];omega
     rw [← hL1,← hL2,← hR1,← hR2] at k5
     have sL1:Sd key L1:=by rw [hL1];exact hL.split.1
     have sL2:Sd key L2:=by rw [hL2];exact hL.split.2
     have sR1:Sd key R1:=by rw [hR1];exact hR.split.1
     have sR2:Sd key R2:=by rw [hR2];exact hR.split.2
     have hM1:L1≠[]→R1≠[]→Mrgp PL M h b n cap g key A L1 R1 (L2++R2++B):=fun e1 e2=>m230 C hb hn hc hcf k A L1 R1 (L2++R2++B) (by omega) e1 e2 (by simp;omega) sL1 sR1 (fun x hx y hy=>hlt x (by rw [eL];simp [hx]) y (by rw [eR];simp [hy])) (fun x hx=>ho x (by rw [eL];simp [hx])) (fun y hy=>ho' y (by rw [eR];simp [hy]))
     have fin2:∀ lo wr l',Only b wr→l'=(A++L1)++R1++L2++(R2++B)→W M (.seq t230_2 t230_3) ⟨⟨[.sl b 0 n 5 cap,.int .i64 A.length,.int .i64 (A.length+L.length:Nat),.int .i64 (A.length+L.length+R.length:Nat),g,a5,a6,a7,a8,a9,a10,a11,a12,.int .i64 mid,.int .i64 (mid+m:Nat),.int .i64 st,a16,a17,a18,.int .i64 (((mid+m:Nat):Int)-(st:Int))],lo,h.put b (some (.cells (arr (pf PL) l') 116)),[]⟩,wr⟩
      fun x s=>(x = .normal∨x = .ret)∧s.s.dfs=[]∧∃ l',s.s.hp=h.put b (some (.cells (arr (pf PL) l') 116))∧Only b s.wr∧∃ S,l'=A++S++B∧Sd key S∧S.Perm (L++R):=by
      intro lo wr l' w1 w2
      apply W.seq
      refine pp2 A L1 R1 (L2++R2++B) hM1 sL1 sR1 (by rw [w2];simp) (by omega) (by omega) (by omega) w1 (fun S1 lo wr l' v1 v2 v3 v4=>?_)
      apply SQn
      have nS1:S1.length=mid-a:=by rw [v3.length_eq,List.length_append];omega
      have hM2:L2≠[]→R2≠[]→Mrgp PL M h b n cap g key (A++S1) L2 R2 B:=fun e1 e2=>m230 C hb hn hc hcf k (A++S1) L2 R2 B (by omega) e1 e2 (by simp;omega) sL2 sR2 (fun x hx y hy=>hlt x (by rw [eL];simp [hx]) y (by rw [eR];simp [hy])) (fun x hx=>ho x (by rw [eL];simp [hx])) (fun y hy=>ho' y (by rw [eR];simp [hy]))
      refine pp3 (A++S1) L2 R2 B hM2 sL2 sR2 (by rw [v4];simp) (by simp;omega) (by simp;omega) (by simp;omega) v1 (fun S2 lo wr l' u1 u2 u3 u4=>?_)
      refine ⟨.inl rfl,rfl,l',rfl,u1,S1++S2,by rw [u4];simp,v2.app u2 (fun x hx y hy=>k5 x (v3.mem_iff.1 hx) y (u3.mem_iff.1 hy)),?_⟩
      have p1:(S1++S2).Perm ((L1++R1)++(L2++R2)):=v3.append u3
      have p2:((L1++R1)++(L2++R2)).Perm ((L1++L2)++(R1++R2)):=by
       have:(R1++L2).Perm (L2++R1):=List.perm_append_comm
       have:=(this.append_right R2).append_left L1
       simpa using this
      rw [eL,eR]
      exact p1.trans p2
     unfold t230_0
     repeat' first|(refine pp1 C hb hn (A++L1) L2 R1 (R2++B) (by rw [eL,eR];simp) (by simp;omega) (by simp;omega) (by simp;omega) (by simp;omega) Only.nil (fun lo wr l' w1 w2=>SQn (fin2 lo wr l' w1 w2)))|apply W.seq|apply SQn|apply W.region|apply WO.nil|(apply WO.sub;rfl;rfl;omega)|(apply WO.pl;rfl;rfl)|(apply WO.pp;rfl;rfl)
    unfold b230
    simp only [enter]
    by_cases cm:m≤mid
    · have hs:m≤mid∧A.length=a∧A.length+L.length=m∨mid<m∧A.length=mid+m-e∧A.length+L.length=mid:=.inl ⟨cm,ea.symm,em.symm⟩
      repeat' first|apply W.seq|apply SQn|apply W.region|apply WO.nil|apply W.block|apply W.skip|(apply W.condF;rfl)|(apply WO.gtr;rfl;rfl;all_goals first|(intro _;exfalso;omega)|intro _)|(apply WO.eql;rfl;rfl;all_goals first|(intro _;exfalso;omega)|intro _)|(apply WO.cvu;rfl;omega)|(apply WO.cvi;rfl;omega)|(apply WO.shr1;rfl)|(apply WO.add;rfl;rfl;omega)|(apply WO.sub;rfl;rfl;omega)|(apply WO.pl;rfl;rfl)|(apply WO.pp;rfl;rfl)
      rw [E1,E2,E3]
      refine loop230_4 hn hb hc (A++L++R++B) hl (mid+m-1) A.length (A.length+L.length) (by omega) (by omega) (by omega) (fun c q1 q2=>⟨(D c (by omega) (by omega) (by omega) (by omega)).1,(D c (by omega) (by omega) (by omega) (by omega)).2.1⟩) _ _ _ _ _ _ _ _ _ _ _ _ _ _ _ (mono _ _ hs) L.length A.length (A.length+L.length) _ _ (by omega) (Nat.le_refl _) (by omega) (Nat.le_refl _) (fun k h1 h2=>by omega) (fun k h1 h2=>by omega) (fun st a18 lo k1 k2 k3 k4=>?_)
      repeat' first|(exact finish _ _ st hs k1 k2 k3 k4 _ _ _ _ _ _ _ _ _ _ _ _ _)|apply SQn|apply BQe
    · have hs:m≤mid∧mid+m-e=a∧mid=m∨mid<m∧mid+m-e=mid+m-e∧mid=mid:=.inr ⟨by omega,rfl,rfl⟩
      have E4:((mid+m:Nat):Int)-((A.length+L.length+R.length:Nat):Int)=((mid+m-e:Nat):Int):=by omega
      repeat' first|apply W.seq|apply SQn|apply W.region|apply WO.nil|apply W.block|apply W.skip|(apply W.condT;rfl)|(apply W.condF;rfl)|(apply WO.gtr;rfl;rfl;all_goals first|(intro _;exfalso;omega)|intro _)|(apply WO.eql;rfl;rfl;all_goals first|(intro _;exfalso;omega)|intro _)|(apply WO.cvu;rfl;omega)|(apply WO.cvi;rfl;omega)|(apply WO.shr1;rfl)|(apply WO.add;rfl;rfl;omega)|(apply WO.sub;rfl;rfl;omega)|(apply WO.pl;rfl;rfl)|(apply WO.pp;rfl;rfl)
      rw [E1,E2,E3,E4]
      refine loop230_4 hn hb hc (A++L++R++B) hl (mid+m-1) (mid+m-e) mid (by omega) (by omega) (by omega) (fun c q1 q2=>⟨(D c (by omega) (by omega) (by omega) (by omega)).1,(D c (by omega) (by omega) (by omega) (by omega)).2.1⟩) _ _ _ _ _ _ _ _ _ _ _ _ _ _ _ (mono _ _ hs) L.length (mid+m-e) mid _ _ (by omega) (Nat.le_refl _) (by omega) (Nat.le_refl _) (fun k h1 h2=>by omega) (fun k h1 h2=>by omega) (fun st a18 lo k1 k2 k3 k4=>?_)
      repeat' first|(exact finish _ _ st hs k1 k2 k3 k4 _ _ _ _ _ _ _ _ _ _ _ _ _)|apply SQn|apply BQe
    )
  exact ⟨S,wr,hw,⟨g2,g3⟩,ct_of_run C.n230 hr⟩
end Go.Ab.Ch6.Srp

/-
  Own work: slices.SortStableFunc over arr (pf PL): blocks and merges, whole.
-/
namespace Go.Ab.Ch6.Srp
open Go.Ab.Sort
variable {PL:List Place} {M:Mach} {h:Heap} {b n:Nat} {cap:Option Nat} {g:AV}
variable {key:Int→Int} {ok:Int→Prop} {cf:Int→Int→Int}
theorem loop193_0 (C:CSp M) (hb:b<h.length) (hn:n<2305843009213693952) (hc:Cmpp PL M h b g ok cf) (hcf:∀ x y,ok x→ok y→(cf x y<0↔key y<key x)) (a6:AV) {Q:Ex→StW→Prop}:∀ (r:Nat) (P X:List Int) (lo:List (Nat×AV)) (wr:List Nat),X.length≤r→(P++X).length=n→Only b wr→X.Pairwise (· < ·)→(∀ y∈X,ok y) →
 (∀ P' X' lo wr l a5,Only b wr→l=P'++X'→l.length=n→X'.length<20→X'.Pairwise (· < ·)→(∀ y∈X',ok y)→(∀ S,Sd key S→S.Perm X'→∃ T,P'++S=P++T∧Ch key 20 T X)→Q (.exit 0) ⟨⟨[.sl b 0 n 5 cap,.int .i64 n,g,.int .i64 20,.int .i64 P'.length,a5,a6],lo,h.put b (some (.cells (arr (pf PL) l) 116)),[]⟩,wr⟩) →
 W M (.loop b193_0) ⟨⟨[.sl b 0 n 5 cap,.int .i64 n,g,.int .i64 20,.int .i64 P.length,.int .i64 (P.length+20:Nat),a6],lo,h.put b (some (.cells (arr (pf PL) (P++X)) 116)),[]⟩,wr⟩ Q:=by
 intro r
 induction r with
 | zero=>
  intro P X lo wr hr hl hw hlt ho hQ
  have hl':P.length+X.length=n:=by simpa using hl
  refine W.loop ?_
  unfold b193_0
  repeat' first|apply W.seq|apply SQn|apply W.region|apply WO.nil|apply W.exit|apply SQe|apply LQe|(apply W.condF;rfl)|(apply WO.leq;rfl;rfl;all_goals first|(intro _;exfalso;omega)|intro _)|(apply WO.pl;rfl;rfl)
  · exact hQ P X _ _ _ _ hw rfl hl (by omega) hlt ho (fun S h1 h2=>⟨S,rfl,.last (by rw [h2.length_eq];omega) h1 h2⟩)
 | succ r ih=>
  intro P X lo wr hr hl hw hlt ho hQ
  have hl':P.length+X.length=n:=by simpa using hl
  refine W.loop ?_
  by_cases hX:X.length<20
  · unfold b193_0
    repeat' first|apply W.seq|apply SQn|apply W.region|apply WO.nil|apply W.exit|apply SQe|apply LQe|(apply W.condF;rfl)|(apply WO.leq;rfl;rfl;all_goals first|(intro _;exfalso;omega)|intro _)|(apply WO.pl;rfl;rfl)
    · exact hQ P X _ _ _ _ hw rfl hl hX hlt ho (fun S h1 h2=>⟨S,rfl,.last (by rw [h2.length_eq];omega) h1 h2⟩)
  · obtain ⟨X1,X2,rfl,h1⟩:∃ X1 X2,X=X1++X2∧X1.length=20:=⟨X.take 20,X.drop 20,by simp,by simp;omega⟩
    have hl1:(X1++X2).length=X1.length+X2.length:=List.length_append
    have hpw:=List.pairwise_append.1 hlt
    obtain ⟨S,wr',hw',⟨g1,g2⟩,hcc⟩:=r229 (cap:=cap) (A:=P) (X:=X1) (B:=X2) C hb hn hc hcf (by simpa using hl) hpw.1 (fun y hy=>ho y (by simp [hy]))
    have hS:S.length=20:=by rw [g2.length_eq,h1]
    rw [h1,List.append_assoc] at hcc
    unfold b193_0
    repeat' first|apply W.seq|apply SQn|apply W.region|apply WO.nil|apply W.block|apply W.skip|apply BQn|(apply W.condT;rfl)|(apply WO.leq;rfl;rfl;all_goals first|(intro _;exfalso;omega)|intro _)|(apply WO.add;rfl;rfl;omega)|(apply WO.ct;rfl;rfl;first|exact hcc)|(apply WO.pl;rfl;rfl)|(apply WO.pp;rfl;rfl)
    refine LQn ?_
    rw [show ((P.length+20:Nat):Int)+20=(((P++S).length+20:Nat):Int) by simp;omega,show ((P.length+20:Nat):Int)=((P++S).length:Int) by simp;omega]
    refine ih (P++S) X2 _ _ (by omega) (by simp;omega) (hw'.app hw) hpw.2.1 (fun y hy=>ho y (by simp [hy])) (fun P' X' lo wr l a5 k1 k2 k3 k4 k5 k6 k7=>?_)
    refine hQ P' X' lo wr l a5 k1 k2 k3 k4 k5 k6 (fun S' h3 h4=>?_)
    obtain ⟨T,e1,e2⟩:=k7 S' h3 h4
    exact ⟨S++T,by rw [e1];simp,.more hS g1 g2 e2⟩
theorem loop193_1 (C:CSp M) (hb:b<h.length) (hn:n<2305843009213693952) (hc:Cmpp PL M h b g ok cf) (hcf:∀ x y,ok x→ok y→(cf x y<0↔key y<key x)) (bs:Nat) (hbs:0<bs) (hbn:bs<n) (a6:AV) {Q:Ex→StW→Prop}:∀ (r:Nat) (P T T0:List Int) (lo:List (Nat×AV)) (wr:List Nat),T.length≤r→(P++T).length=n→Only b wr→Ch key bs T T0→T0.Pairwise (· < ·)→(∀ y∈T0,ok y) →
 (∀ P' T' T0' lo wr l a5,Only b wr→l=P'++T'→l.length=n→T'.length<2*bs→Ch key bs T' T0'→T0'.Pairwise (· < ·)→(∀ y∈T0',ok y)→(∀ U,Ch key (2*bs) U T0'→∃ U',P'++U=P++U'∧Ch key (2*bs) U' T0)→Q (.exit 4) ⟨⟨[.sl b 0 n 5 cap,.int .i64 n,g,.int .i64 bs,.int .i64 P'.length,a5,a6],lo,h.put b (some (.cells (arr (pf PL) l) 116)),[]⟩,wr⟩) →
 W M (.loop b193_1) ⟨⟨[.sl b 0 n 5 cap,.int .i64 n,g,.int .i64 bs,.int .i64 P.length,.int .i64 (P.length+2*bs:Nat),a6],lo,h.put b (some (.cells (arr (pf PL) (P++T)) 116)),[]⟩,wr⟩ Q:=by
 intro r
 induction r with
 | zero=>
  intro P T T0 lo wr hr hl hw hch hlt ho hQ
  have hl':P.length+T.length=n:=by simpa using hl
  refine W.loop ?_
  unfold b193_1
  repeat' first|apply W.seq|apply SQn|apply W.region|apply WO.nil|apply W.exit|apply SQe|apply LQe|(apply W.condF;rfl)|(apply WO.leq;rfl;rfl;all_goals first|(intro _;exfalso;omega)|intro _)|(apply WO.pl;rfl;rfl)
  · exact hQ P T T0 _ _ _ _ hw rfl hl (by omega) hch hlt ho (fun U h=>⟨U,rfl,h⟩)
 | succ r ih=>
  intro P T T0 lo wr hr hl hw hch hlt ho hQ
  have hl':P.length+T.length=n:=by simpa using hl
  refine W.loop ?_
  by_cases hT:T.length<2*bs
  · unfold b193_1
    repeat' first|apply W.seq|apply SQn|apply W.region|apply WO.nil|apply W.exit|apply SQe|apply LQe|(apply W.condF;rfl)|(apply WO.leq;rfl;rfl;all_goals first|(intro _;exfalso;omega)|intro _)|(apply WO.pl;rfl;rfl)
    · exact hQ P T T0 _ _ _ _ hw rfl hl hT hch hlt ho (fun U h=>⟨U,rfl,h⟩)
  · obtain ⟨S1,S10,m1,m10,rfl,rfl,h1,h2,h3,h4⟩:=hch.full (by omega)
    have hm1:(S1++m1).length=S1.length+m1.length:=List.length_append
    obtain ⟨S2,S20,T2,T20,rfl,rfl,h5,h6,h7,h8⟩:=h4.full (by omega)
    have hm2:(S2++T2).length=S2.length+T2.length:=List.length_append
    have hpw:=List.pairwise_append.1 hlt
    have hpw2:=List.pairwise_append.1 hpw.2.1
    have hcross:∀ x∈S1,∀ y∈S2,x<y:=fun x hx y hy=>hpw.2.2 x (h3.mem_iff.1 hx) y (by simp [h7.mem_iff.1 hy])
    obtain ⟨S,wr',hw',⟨g1,g2⟩,hcc⟩:=m230 (cap:=cap) C hb hn hc hcf (S1.length+S2.length) P S1 S2 T2 (Nat.le_refl _) (List.length_pos_iff.1 (by omega)) (List.length_pos_iff.1 (by omega)) (by simp at hl ⊢;omega) h2 h6 hcross (fun x hx=>ho x (by simp [h3.mem_iff.1 hx])) (fun y hy=>ho y (by simp [h7.mem_iff.1 hy]))
    have hS:S.length=2*bs:=by rw [g2.length_eq,List.length_append];omega
    have hcc':CT M (fn 230) [.sl b 0 n 5 cap,.int .i64 P.length,.int .i64 ((P.length:Int)+(bs:Int)),.int .i64 (P.length+2*bs:Nat),g] (h.put b (some (.cells (arr (pf PL) (P++(S1++(S2++T2)))) 116))) ⟨.tup [],h.put b (some (.cells (arr (pf PL) (P++S++T2)) 116)),wr'⟩:=by
     rw [show (P.length:Int)+(bs:Int)=((P.length+S1.length:Nat):Int) by omega,show P.length+2*bs=P.length+S1.length+S2.length by omega,show P++(S1++(S2++T2))=P++S1++S2++T2 by simp]
     exact hcc
    unfold b193_1
    repeat' first|apply W.seq|apply SQn|apply W.region|apply WO.nil|apply W.block|apply W.skip|apply BQn|(apply W.condT;rfl)|(apply WO.leq;rfl;rfl;all_goals first|(intro _;exfalso;omega)|intro _)|(apply WO.add;rfl;rfl;omega)|(apply WO.mul;rfl;rfl;omega)|(apply WO.ct;rfl;rfl;first|exact hcc')|(apply WO.pl;rfl;rfl)|(apply WO.pp;rfl;rfl)
    refine LQn ?_
    rw [show ((P.length+2*bs:Nat):Int)+2*(bs:Int)=(((P++S).length+2*bs:Nat):Int) by simp;omega,show ((P.length+2*bs:Nat):Int)=((P++S).length:Int) by simp;omega]
    refine ih (P++S) T2 T20 _ _ (by omega) (by simp;omega) (hw'.app hw) h8 hpw2.2.1 (fun y hy=>ho y (by simp [hy])) (fun P' T' T0' lo wr l a5 k1 k2 k3 k4 k5 k6 k7 k8=>?_)
    refine hQ P' T' T0' lo wr l a5 k1 k2 k3 k4 k5 k6 k7 (fun U hU=>?_)
    obtain ⟨U',e1,e2⟩:=k8 U hU
    refine ⟨S++U',by rw [e1];simp,?_⟩
    have:Ch key (2*bs) (S++U') ((S10++S20)++T20):=.more hS g1 (g2.trans (h3.append h7)) e2
    simpa using this
set_option maxHeartbeats 1000000 in
theorem loop193_2 (C:CSp M) (hb:b<h.length) (hn:n<2305843009213693952) (hc:Cmpp PL M h b g ok cf) (hcf:∀ x y,ok x→ok y→(cf x y<0↔key y<key x)) (l0:List Int) (hlt:l0.Pairwise (· < ·)) (ho:∀ y∈l0,ok y) {Q:Ex→StW→Prop}:∀ (r bs:Nat) (l:List Int) (a4 a5 a6:AV) (lo:List (Nat×AV)) (wr:List Nat),n-bs≤r→0<bs→l.length=n→Only b wr→Ch key bs l l0 →
 (∀ l a3 a4 a5 a6 lo wr,Only b wr→Sd key l→l.Perm l0→Q (.exit 2) ⟨⟨[.sl b 0 n 5 cap,.int .i64 n,g,a3,a4,a5,a6],lo,h.put b (some (.cells (arr (pf PL) l) 116)),[]⟩,wr⟩) →
 W M (.loop b193_2) ⟨⟨[.sl b 0 n 5 cap,.int .i64 n,g,.int .i64 bs,a4,a5,a6],lo,h.put b (some (.cells (arr (pf PL) l) 116)),[]⟩,wr⟩ Q:=by
 intro r
 induction r with
 | zero=>
  intro bs l a4 a5 a6 lo wr hr hbs hl hw hch hQ
  refine W.loop ?_
  unfold b193_2
  repeat' first|apply W.seq|apply SQn|apply W.region|apply WO.nil|apply W.exit|apply SQe|apply LQe|(apply W.condF;rfl)|(apply WO.lss;rfl;rfl;all_goals first|(intro _;exfalso;omega)|intro _)|(apply WO.pl;rfl;rfl)
  · exact hQ l _ _ _ _ _ _ hw (hch.done (by omega)) hch.perm
 | succ r ih=>
  intro bs l a4 a5 a6 lo wr hr hbs hl hw hch hQ
  refine W.loop ?_
  by_cases hd:n≤bs
  · unfold b193_2
    repeat' first|apply W.seq|apply SQn|apply W.region|apply WO.nil|apply W.exit|apply SQe|apply LQe|(apply W.condF;rfl)|(apply WO.lss;rfl;rfl;all_goals first|(intro _;exfalso;omega)|intro _)|(apply WO.pl;rfl;rfl)
    · exact hQ l _ _ _ _ _ _ hw (hch.done (by omega)) hch.perm
  · have h0:([]:List Int).length=0:=rfl
    unfold b193_2
    repeat' first|apply W.seq|apply SQn|apply W.region|apply WO.nil|apply W.block|apply W.skip|(apply W.condT;rfl)|(apply WO.lss;rfl;rfl;all_goals first|(intro _;exfalso;omega)|intro _)|(apply WO.mul;rfl;rfl;omega)|(apply WO.pl;rfl;rfl)|(apply WO.pp;rfl;rfl)
    rw [show (2:Int)*(bs:Int)=((([]:List Int).length+2*bs:Nat):Int) by simp,show (AV.int .i64 0)=AV.int .i64 (([]:List Int).length:Int) from rfl]
    refine loop193_1 C hb hn hc hcf bs hbs (by omega) _ n [] l l0 _ _ (by omega) (by simpa using hl) hw hch hlt ho (fun P T T0 lo wr l a5 k1 k2 k3 k4 k5 k6 k7 k8=>?_)
    have hlen:P.length+T.length=n:=by rw [← k3,k2,List.length_append]
    by_cases hT:bs<T.length
    · obtain ⟨S1,S10,m1,m10,rfl,rfl,h1,h2,h3,h4⟩:=k5.full (by omega)
      have hm1:(S1++m1).length=S1.length+m1.length:=List.length_append
      have hpw:=List.pairwise_append.1 k6
      obtain ⟨S,wr',hw',⟨g1,g2⟩,hcc⟩:=m230 (cap:=cap) C hb hn hc hcf (S1.length+m1.length) P S1 m1 [] (Nat.le_refl _) (List.length_pos_iff.1 (by omega)) (List.length_pos_iff.1 (by omega)) (by simp;omega) h2 (h4.done (by omega)) (fun x hx y hy=>hpw.2.2 x (h3.mem_iff.1 hx) y (h4.perm.mem_iff.1 hy)) (fun x hx=>k7 x (by simp [h3.mem_iff.1 hx])) (fun y hy=>k7 y (by simp [h4.perm.mem_iff.1 hy]))
      have hS:S.length≤2*bs:=by rw [g2.length_eq,List.length_append];omega
      have hcc':CT M (fn 230) [.sl b 0 n 5 cap,.int .i64 P.length,.int .i64 ((P.length:Int)+(bs:Int)),.int .i64 n,g] (h.put b (some (.cells (arr (pf PL) l) 116))) ⟨.tup [],h.put b (some (.cells (arr (pf PL) (P++S)) 116)),wr'⟩:=by
       rw [show (P.length:Int)+(bs:Int)=((P.length+S1.length:Nat):Int) by omega,show ((n:Nat):Int)=((P.length+S1.length+m1.length:Nat):Int) by omega,show l=P++S1++m1++[] by rw [k2];simp,show P++S=P++S++[] by simp]
       exact hcc
      obtain ⟨U,e1,e2⟩:=k8 S (.last hS g1 (g2.trans (h3.append h4.perm)))
      repeat' first|apply W.seq|apply SQn|apply W.region|apply WO.nil|apply BQn|apply BQe|(apply W.condT;rfl)|(apply WO.lss;rfl;rfl;all_goals first|(intro _;exfalso;omega)|intro _)|(apply WO.add;rfl;rfl;omega)|(apply WO.mul;rfl;rfl;omega)|(apply WO.ct;rfl;rfl;first|exact hcc')|(apply WO.pl;rfl;rfl)|(apply WO.pp;rfl;rfl)
      refine LQn ?_
      rw [show (bs:Int)*2=((2*bs:Nat):Int) by omega,e1,List.nil_append]
      exact ih (2*bs) U _ _ _ _ _ (by omega) (by omega) (by have:=congrArg List.length e1;simp at this;rw [← this,g2.length_eq];simp;omega) (hw'.app k1) e2 hQ
    · obtain ⟨U,e1,e2⟩:=k8 T (.last (by omega) (k5.done (by omega)) k5.perm)
      repeat' first|apply W.seq|apply SQn|apply W.region|apply WO.nil|apply W.skip|apply BQn|apply BQe|(apply W.condF;rfl)|(apply WO.lss;rfl;rfl;all_goals first|(intro _;exfalso;omega)|intro _)|(apply WO.add;rfl;rfl;omega)|(apply WO.mul;rfl;rfl;omega)|(apply WO.pl;rfl;rfl)|(apply WO.pp;rfl;rfl)
      refine LQn ?_
      rw [show (bs:Int)*2=((2*bs:Nat):Int) by omega,k2,e1,List.nil_append]
      exact ih (2*bs) U _ _ _ _ _ (by omega) (by omega) (by have:=congrArg List.length e1;simp at this;omega) k1 e2 hQ
theorem r143 (C:CSp M) (hb:b<h.length) (hn:n<2305843009213693952) (hc:Cmpp PL M h b g ok cf) (hcf:∀ x y,ok x→ok y→(cf x y<0↔key y<key x)) {l:List Int} (hl:l.length=n) (hlt:l.Pairwise (· < ·)) (ho:∀ y∈l,ok y) :
 ∃ S wr,Only b wr∧(Sd key S∧S.Perm l)∧CT M (fn 143) [.sl b 0 n 5 cap,g] (h.put b (some (.cells (arr (pf PL) l) 116))) ⟨.tup [],h.put b (some (.cells (arr (pf PL) S) 116)),wr⟩:=by
 have h0:([]:List Int).length=0:=rfl
 obtain ⟨S,wr,hw,⟨g1,g2⟩,hr⟩:=run_put (M:=M) (l:=l) (e:=116) (f:=pf PL) (P:=fun l'=>Sd key l'∧l'.Perm l)
  (ars:=[.sl b 0 n 5 cap,.int .i64 n,g]) (by rw [C.ft];exact ft193) (by simp) hb (fun _=>rfl) (by
   unfold b193
   simp only [enter]
   repeat' first|apply W.seq|apply SQn|apply W.region|apply WO.nil|apply W.block|(apply WO.pl;rfl;rfl)|(apply WO.pp;rfl;rfl)
   refine loop193_0 C hb hn hc hcf _ n [] l _ _ (by omega) (by simpa using hl) Only.nil hlt ho (fun P X lo wr l' a5 k1 k2 k3 k4 k5 k6 k7=>?_)
   have hlen:P.length+X.length=n:=by rw [← k3,k2,List.length_append]
   obtain ⟨S,wr',hw',⟨g1,g2⟩,hcc⟩:=r229 (cap:=cap) (A:=P) (X:=X) (B:=[]) C hb hn hc hcf (by simpa using hlen) k5 k6
   have hcc':CT M (fn 229) [.sl b 0 n 5 cap,.int .i64 P.length,.int .i64 n,g] (h.put b (some (.cells (arr (pf PL) l') 116))) ⟨.tup [],h.put b (some (.cells (arr (pf PL) (P++S)) 116)),wr'⟩:=by
    rw [show ((n:Nat):Int)=((P.length+X.length:Nat):Int) by omega,show l'=P++X++[] by rw [k2];simp,show P++S=P++S++[] by simp]
    exact hcc
   obtain ⟨T,e1,e2⟩:=k7 S g1 g2
   repeat' first|apply W.seq|apply SQn|apply W.region|apply WO.nil|apply W.block|apply BQe|(apply WO.ct;rfl;rfl;first|exact hcc')|(apply WO.pl;rfl;rfl)
   rw [e1,List.nil_append]
   refine loop193_2 C hb hn hc hcf l hlt ho n 20 T _ _ _ _ _ (by omega) (by omega) (by have:=congrArg List.length e1;simp at this;rw [← this,g2.length_eq];exact hlen) (hw'.app k1) e2 (fun l' a3 a4 a5 a6 lo wr q1 q2 q3=>?_)
   repeat' first|apply BQe
   exact ⟨.inl rfl,rfl,l',rfl,q1,q2,q3⟩)
 have hct:=ct_of_run C.n193 hr
 obtain ⟨S',wr',hw',⟨rfl⟩,hr'⟩:=run_put (M:=M) (l:=l) (e:=116) (f:=pf PL) (P:=fun l'=>l'=S)
  (ars:=[.sl b 0 n 5 cap,g]) (by rw [C.ft];exact ft143) (by simp) hb (fun _=>rfl) (by
   unfold b143
   simp only [enter]
   repeat' first|apply W.region|apply WO.nil|(apply WO.ct;rfl;rfl;first|exact hct)|(apply WO.pl;rfl;rfl)
   exact ⟨.inl rfl,rfl,S,rfl,hw.app Only.nil,rfl⟩)
 exact ⟨S,wr',hw',⟨g1,g2⟩,ct_of_run C.n143 hr'⟩
end Go.Ab.Ch6.Srp

/-
  Own work: chapter 6: comparisons of places, marks, the greatest trial.
-/
namespace Go.Ab.Ch6
open Go.Ab.Sort
variable {M:Mach} {cap c1 c2:Option Nat}
theorem w145 (hft:M.FT=FT) (l:List Int) (hl:l.length<1000000):Run M 145 [.vs (ints l) l.length cap] [] ⟨.int .i64 (firstNZ l),[],[]⟩:=by
 refine run_of_W (by rw [hft];exact ft145) (by simp) ?_
 unfold b145
 simp only [enter]
 repeat' first|apply W.seq|apply SQn|apply W.region|apply WO.nil|apply W.block|(apply WO.pp;rfl;rfl)
 refine W.loopI l.length (fun i s=>firstNZ l=firstNZ (l.drop i)∧∃ a3 lo wr,s=⟨⟨[.vs (ints l) l.length cap,.int .i64 0,.int .i64 0,a3,.vs (ints l) l.length cap,.int .i64 l.length,.int .i64 i],lo,[],[]⟩,wr⟩) (fun i s hi ⟨he,a3,lo,wr,hs⟩=>?_) (fun s ⟨he,a3,lo,wr,hs⟩=>?_) (Nat.zero_le _) ⟨rfl,_,_,_,rfl⟩
 · subst hs
   have e:=firstNZ_drop (l:=l) (i:=((i:Int)).toNat) hi
   unfold b145_0
   repeat' first|apply W.seq|apply SQn|apply W.region|apply WO.nil|apply W.block|apply W.ret|apply W.skip|apply SQr|apply BQn|apply BQr|apply LIr|(apply W.condT;rfl)|(apply W.condF;rfl)|(apply WO.lss;rfl;rfl;all_goals first|(intro _;exfalso;omega)|intro _)|(apply WO.neq;rfl;rfl;all_goals first|(intro _;exfalso;omega)|intro _)|(apply WO.add;rfl;rfl;omega)|(apply WO.iav;rfl;rfl;omega)|(apply WO.lda;rfl;exact fun _=>rfl;(first|omega|(simp only [List.length_set];omega)|(simp;omega));decide;rfl;case ia=>infer_instance)|(apply WO.pl;rfl;rfl)|(apply WO.pp;rfl;rfl)
   · rename_i h
     rw [if_neg h] at e
     exact ⟨.inr rfl,rfl,_,rfl,by rw [he];exact (congrArg (AV.int .i64) e).symm,rfl⟩
   · rename_i h
     rw [if_pos h] at e
     exact LIn ⟨he.trans e,_,_,_,rfl⟩
 · subst hs
   unfold b145_0
   repeat' first|apply W.seq|apply SQn|apply W.region|apply WO.nil|apply W.ret|apply W.exit|apply SQe|apply BQe|apply LIe|(apply W.condF;rfl)|(apply WO.lss;rfl;rfl;all_goals first|(intro _;exfalso;omega)|intro _)|(apply WO.pl;rfl;rfl)|(apply WO.pp;rfl;rfl)
   exact ⟨.inr rfl,rfl,_,rfl,by rw [he,List.drop_length];rfl,rfl⟩
def cfP (p q:Place):Int:=firstNZ [cmpI (min q.rank 1) (min p.rank 1),cmpI p.rank q.rank]
theorem cfP_key {P:List Place} {x y:Int} (hx:0≤rkOf P x∧rkOf P x<1000000) (hy:0≤rkOf P y∧rkOf P y<1000000):cfP P[x.toNat]! P[y.toNat]! < 0↔keyP P y<keyP P x:=by
 unfold cfP keyP
 rw [first2]
 show (if cmpI (min (rkOf P y) 1) (min (rkOf P x) 1)≠0 then cmpI (min (rkOf P y) 1) (min (rkOf P x) 1) else cmpI (rkOf P x) (rkOf P y))<0↔_
 generalize rkOf P x=a at *
 generalize rkOf P y=b at *
 unfold cmpI
 split <;> split <;> split <;> (repeat' split) <;> omega
set_option maxHeartbeats 1000000 in
theorem w144 (hft:M.FT=FT) (c142:∀ x y h,M.ext 142 [.int .i64 x,.int .i64 y] h=some ⟨.int .i64 (cmpI x y),h,[]⟩) (c145:∀ (l:List Int) v h,Sl inC h v l→l.length<1000000→M.ext 145 [v] h=some ⟨.int .i64 (firstNZ l),h,[]⟩) (p q:Place) :
 Run M 144 [.agg (placeC p),.agg (placeC q)] [] ⟨.int .i64 (cfP p q),[],[]⟩:=by
 have q142:=c142
 have q145:∀ a b,M.ext 145 [.sl 2 0 2 1 (some 2)] ([some (.cells (placeC p) 116),some (.cells (placeC q) 116)]++[some (.cells [.int .i64 a,.int .i64 b] 3)])=some ⟨.int .i64 (firstNZ [a,b]),[some (.cells (placeC p) 116),some (.cells (placeC q) 116)]++[some (.cells [.int .i64 a,.int .i64 b] 3)],[]⟩:=fun a b=>
  c145 [a,b] _ _ (Sl.ofAt (f:=inC) (esz:=1) (e:=3) (fun _=>rfl) rfl rfl) (by simp)
 refine run_of_W (by rw [hft];exact ft144) (by simp) ?_
 unfold b144
 simp only [enter]
 repeat' first|(apply WO.min2 (m:=min q.rank 1);rfl;rfl;omega)|(apply WO.min2 (m:=min p.rank 1);rfl;rfl;omega)|apply W.seq|apply SQn|apply W.region|apply WO.nil|apply W.ret|apply W.draw|apply WD.nil|(apply WD.pure1;rfl)|(apply WD.load1;rfl;rfl;(first|(simp only [List.nil_append,List.cons_append];rfl)|rfl))|(apply WD.new1;rfl)|(apply WD.cl0;rfl;rfl;(first|(simp only [List.nil_append,List.cons_append];rfl)|rfl);first|exact q142 _ _ _|exact q145 _ _)|(apply WO.hlv;rfl;rfl;rfl)|(apply WO.hpv;rfl;rfl;rfl)|(apply WO.pl;rfl;rfl)|(apply WO.pp;rfl;rfl)
 exact ⟨.inr rfl,rfl,_,rfl,rfl,rfl⟩
def markC (k:Str) (v:Int) (w:Str):List AV:=[.str k,.int .i64 v,.str w]
theorem w89 (hft:M.FT=FT) (st ret:Bool):Run M 89 [.bool st,.bool ret] [] ⟨.agg (markC sNone 0 (noWhy (!st) ret)),[],[]⟩:=by
 refine run_of_W (by rw [hft];exact ft89) (by simp) ?_
 unfold b89
 simp only [enter]
 cases st <;> cases ret <;> skip
 all_goals
  repeat' first|apply W.seq|apply SQn|apply W.region|apply WO.nil|apply W.ret|apply W.skip|apply SQr|(apply W.condT;rfl)|(apply W.condF;rfl)|(apply WO.gT;rfl)|(apply WO.sT;rfl)|(apply WO.pkT;rfl;rfl)|(apply WO.pkF;rfl;rfl)|(apply WO.stK;rfl;rfl;exact ⟨rfl,by first|exact Nat.le_refl _|decide|(simp [overwrite]),rfl⟩;rfl)|(apply WO.hpv;rfl;rfl;rfl)|(apply WO.pl;rfl;rfl)
  exact ⟨.inr rfl,rfl,_,rfl,rfl,rfl⟩
theorem w79 (hft:M.FT=FT) (idle ret:Bool):Run M 79 [.bool idle,.bool ret] [] ⟨.agg (markC sNone 0 (noWhy idle ret)),[],[]⟩:=by
 refine run_of_W (by rw [hft];exact ft79) (by simp) ?_
 unfold b79
 simp only [enter]
 cases idle <;> cases ret <;> skip
 all_goals
  repeat' first|apply W.seq|apply SQn|apply W.region|apply WO.nil|apply W.ret|apply W.skip|apply SQr|(apply W.condT;rfl)|(apply W.condF;rfl)|(apply WO.gT;rfl)|(apply WO.sT;rfl)|(apply WO.pkT;rfl;rfl)|(apply WO.pkF;rfl;rfl)|(apply WO.stK;rfl;rfl;exact ⟨rfl,by first|exact Nat.le_refl _|decide|(simp [overwrite]),rfl⟩;rfl)|(apply WO.hpv;rfl;rfl;rfl)|(apply WO.pl;rfl;rfl)
  exact ⟨.inr rfl,rfl,_,rfl,rfl,rfl⟩
end Go.Ab.Ch6

/-
  Own work: chapter 6: places in their order; the ranking by the program.
-/
namespace Go.Ab.Ch6
open Go.Ab.Sort
variable {M:Mach} {cap c1 c2:Option Nat} {h:Heap} {b:Nat}
theorem arr_map {α β:Type} (f:β→List AV) (g:α→β):∀ l:List α,arr f (l.map g)=arr (fun x=>f (g x)) l
 | []=>rfl
 | a::l=>by rw [List.map_cons,arr_cons,arr_cons,arr_map f g l]
theorem arr_pf (P:List Place) (S:List Int):arr (pf P) S=arr placeC (S.map fun i=>P[i.toNat]!):=(arr_map placeC (fun i:Int=>P[i.toNat]!) S).symm
abbrev placesC (l:List Place):List AV:=arr placeC l
structure CRo (M:Mach):Prop extends Srp.CSp M where
 n94:∀ ars h,M.ext 94 ars h=none
 c144:∀ p q h,M.ext 144 [.agg (placeC p),.agg (placeC q)] h=some ⟨.int .i64 (cfP p q),h,[]⟩
theorem s94 (C:CRo M) (hb:b<h.length) (P:List Place) (hP:P.length<1000000) (hr:∀ p∈P,0≤p.rank∧p.rank≤P.length) (cap:Option Nat) :
 ∃ wr,Only b wr∧CT M (fn 94) [.sl b 0 P.length 5 cap] (h.put b (some (.cells (placesC P) 116))) ⟨.sl b 0 P.length 5 cap,h.put b (some (.cells (placesC (orderP P)) 116)),wr⟩:=by
 have hok:∀ i∈numsTo P.length,0≤rkOf P i∧rkOf P i<1000000:=fun i hi=>by
  have hb:=numsTo_mem.1 hi
  have hm:P[i.toNat]! ∈ P:=by rw [getElem!_pos P _ (by omega)];exact List.getElem_mem _
  have:=hr _ hm
  unfold rkOf
  omega
 obtain ⟨S,wr,hw,⟨g1,g2⟩,hct⟩:=Srp.r143 (PL:=P) (cap:=cap) (g:=.fn (.func 144) [] []) (key:=keyP P) (ok:=fun i=>0≤rkOf P i∧rkOf P i<1000000) (cf:=fun x y=>cfP P[x.toNat]! P[y.toNat]!) C.toCSp hb (n:=P.length) (by omega)
   (fun x y l' hx hy=>CT.ext (C.c144 _ _ _)) (fun x y hx hy=>cfP_key hx hy) (l:=numsTo P.length) numsTo_length numsTo_lt hok
 rw [arr_pf,nums_map,arr_pf,order_sorted (by omega) hr g1 g2] at hct
 obtain ⟨wr',hw',hrun⟩:=run_putV (M:=M) (f:=placeC) (h:=h) (b:=b) (l:=P) (e:=116) (g:=94) (ars:=[.sl b 0 P.length 5 cap]) (v:=.sl b 0 P.length 5 cap) (l':=orderP P) (by rw [C.ft];exact ft94) (by simp) hb (fun _=>rfl) (by simp [AV.top];omega) (by
  unfold b94
  simp only [enter]
  repeat' first|apply W.seq|apply SQn|apply W.region|apply WO.nil|apply W.ret|(apply WO.ct;rfl;rfl;first|exact hct)|(apply WO.pl;rfl;rfl)|(apply WO.pp;rfl;rfl)
  exact ⟨.inr rfl,rfl,rfl,hw.app Only.nil,_,rfl,rfl⟩)
 exact ⟨wr',hw',ct_of_run C.n94 hrun⟩
theorem e229 (C:CRo M) (g:AV) (hp:Heap):CT M (fn 229) [.nilsl,.int .i64 0,.int .i64 0,g] hp ⟨.tup [],hp,[]⟩:=by
 refine ct_of_run C.n229 (run_same (by rw [C.ft];exact ft229) (by simp) ?_)
 unfold b229
 simp only [enter]
 repeat' first|apply W.seq|apply SQn|apply W.region|apply WO.nil|apply W.block|(apply WO.add;rfl;rfl;omega)|(apply WO.pl;rfl;rfl)|(apply WO.pp;rfl;rfl)
 refine W.loop ?_
 unfold b229_1
 repeat' first|apply W.seq|apply SQn|apply W.region|apply WO.nil|apply W.exit|apply SQe|apply BQe|apply LQe|(apply W.condF;rfl)|(apply WO.lss;rfl;rfl;all_goals first|(intro _;exfalso;omega)|intro _)|(apply WO.pl;rfl;rfl)
 exact ⟨.inl rfl,rfl,rfl,rfl,_,rfl,rfl⟩
theorem e193 (C:CRo M) (g:AV) (hp:Heap):CT M (fn 193) [.nilsl,.int .i64 0,g] hp ⟨.tup [],hp,[]⟩:=by
 have q:=e229 C g hp
 refine ct_of_run C.n193 (run_same (by rw [C.ft];exact ft193) (by simp) ?_)
 unfold b193
 simp only [enter]
 repeat' first|apply W.seq|apply SQn|apply W.region|apply WO.nil|apply W.block|(apply WO.pl;rfl;rfl)|(apply WO.pp;rfl;rfl)
 refine W.loop ?_
 unfold b193_0
 repeat' first|apply W.seq|apply SQn|apply W.region|apply WO.nil|apply W.block|apply W.exit|apply SQe|apply BQe|apply LQe|(apply W.condF;rfl)|(apply WO.leq;rfl;rfl;all_goals first|(intro _;exfalso;omega)|intro _)|(apply WO.ct;rfl;rfl;first|exact q)|(apply WO.pl;rfl;rfl)
 refine W.loop ?_
 unfold b193_2
 repeat' first|apply W.seq|apply SQn|apply W.region|apply WO.nil|apply W.exit|apply SQe|apply BQe|apply LQe|(apply W.condF;rfl)|(apply WO.lss;rfl;rfl;all_goals first|(intro _;exfalso;omega)|intro _)|(apply WO.pl;rfl;rfl)
 exact ⟨.inl rfl,rfl,rfl,rfl,_,rfl,rfl⟩
theorem e143 (C:CRo M) (g:AV) (hp:Heap):CT M (fn 143) [.nilsl,g] hp ⟨.tup [],hp,[]⟩:=by
 have q:=e193 C g hp
 refine ct_of_run C.n143 (run_same (by rw [C.ft];exact ft143) (by simp) ?_)
 unfold b143
 simp only [enter]
 repeat' first|apply W.region|apply WO.nil|(apply WO.ct;rfl;rfl;first|exact q)|(apply WO.pl;rfl;rfl)
 exact ⟨.inl rfl,rfl,rfl,rfl,_,rfl,rfl⟩
theorem e94 (C:CRo M) (hp:Heap):CT M (fn 94) [.nilsl] hp ⟨.nilsl,hp,[]⟩:=by
 have q:=e143 C (.fn (.func 144) [] []) hp
 refine ct_of_run C.n94 (run_same (by rw [C.ft];exact ft94) (by simp) ?_)
 unfold b94
 simp only [enter]
 repeat' first|apply W.seq|apply SQn|apply W.region|apply WO.nil|apply W.ret|(apply WO.ct;rfl;rfl;first|exact q)|(apply WO.pl;rfl;rfl)|(apply WO.pp;rfl;rfl)
 exact ⟨.inr rfl,rfl,rfl,rfl,_,rfl,rfl⟩
end Go.Ab.Ch6

/-
  Own work: chapter 6: the ranking by the reference.
-/
namespace Go.Ab.Ch6
open Go.Ab.Sort
variable {M:Mach} {cap c1 c2:Option Nat}
theorem with_take {P:List Place} {r:Int} {i:Nat} (h:i<P.length):withRank (P.take (i+1)) r=withRank (P.take i) r++if (P[i]!).rank=r then [P[i]!] else []:=by
 rw [withRank,take_snoc' h,List.filter_append,List.filter_cons]
 congr 1
 by_cases hc:(P[i]!).rank=r
 · rw [if_pos (by simpa using hc),if_pos hc];rfl
 · rw [if_neg (by simpa using hc),if_neg hc];rfl
theorem with_len {P:List Place} {r:Int}:(withRank P r).length≤P.length:=List.length_filter_le _ _
theorem ordPR_len {P:List Place}:∀ k,(ordPR P k).length≤k*P.length
 | 0=>by simp [ordPR]
 | k+1=>by
  rw [ordPR,List.length_append,Nat.succ_mul]
  have:=ordPR_len (P:=P) k
  have:=with_len (P:=P) (r:=(k+1:Nat))
  omega
theorem grow_room {P:List Place} {k i L:Nat} {r:Int} (big:1000000000000≤L) (hr:((ordPR P k).length+i+1)*64≤1000000000000):((ordPR P k++withRank (P.take i) r).length+1)*64≤L:=by
 have hw:(withRank (P.take i) r).length≤i:=Nat.le_trans with_len (by rw [List.length_take];exact Nat.min_le_left _ _)
 rw [List.length_append]
 exact Nat.le_trans (Nat.mul_le_mul_right _ (Nat.add_le_add_right (Nat.add_le_add_left hw _) 1)) (Nat.le_trans hr big)
set_option maxHeartbeats 1000000 in
theorem w80 (hft:M.FT=FT) (P:List Place) (hP:P.length<100000):∃ v hh,FrN hh v (.vs (placesC (orderP P)) (orderP P).length none)∧Run M 80 [.vs (placesC P) P.length cap] [] ⟨v,hh,[]⟩:=by
 have room:∀ k n:Nat,k≤P.length→n≤P.length→((ordPR P k).length+n+1)*64≤1000000000000:=fun k n hk hn=>by
  have h1:=ordPR_len (P:=P) k
  have h2:k*P.length≤100000*100000:=Nat.mul_le_mul (by omega) (by omega)
  omega
 have big:1000000000000≤roomLimit:=by unfold roomLimit;omega
 refine run_ofE (P:=fun v hh=>FrN hh v (.vs (placesC (orderP P)) (orderP P).length none)) (by rw [hft];exact ft80) (by simp) ?_
 unfold b80
 simp only [enter]
 repeat' first|apply W.seq|apply SQn|apply W.region|apply WO.nil|apply W.block|(apply WO.pp;rfl;rfl)
 refine W.loopI P.length (fun k s=>∃ o a4 lo K wr,s=⟨⟨[.vs (placesC P) P.length cap,.nilsl,o,.int .i64 ((k+1:Nat):Int),a4,undefA],lo,K,[]⟩,wr⟩∧OutE placeC 5 74 K o (ordPR P k) []) (fun k s hk ⟨o,a4,lo,K,wr,hs,ho⟩=>?_) (fun s ⟨o,a4,lo,K,wr,hs,ho⟩=>?_) (Nat.zero_le _) ⟨_,_,_,_,_,rfl,.ofNil⟩
 · subst hs
   unfold b80_1
   repeat' first|apply W.seq|apply SQn|apply W.region|apply WO.nil|apply W.block|apply W.skip|(apply W.condT;rfl)|(apply WO.leq;rfl;rfl;all_goals first|(intro _;exfalso;omega)|intro _)|(apply WO.pl;rfl;rfl)|(apply WO.pp;rfl;rfl)
   refine W.loopI P.length (fun i s=>∃ o lo K wr,s=⟨⟨[.vs (placesC P) P.length cap,.nilsl,o,.int .i64 ((k+1:Nat):Int),.int .i64 i,undefA],lo,K,[]⟩,wr⟩∧OutE placeC 5 74 K o (ordPR P k++withRank (P.take i) ((k+1:Nat):Int)) []) (fun i s hi ⟨o,lo,K,wr,hs,ho⟩=>?_) (fun s ⟨o,lo,K,wr,hs,ho⟩=>?_) (Nat.zero_le _) ⟨_,_,_,_,rfl,by simpa [withRank] using ho⟩
   · subst hs
     have e:=with_take (r:=((k+1:Nat):Int)) hi
     rw [show P[i]! = P[((i:Int)).toNat]! from rfl] at e
     have hn:=grow_room (P:=P) (k:=k) (r:=((k+1:Nat):Int)) (i:=i) big (room k i (by omega) (by omega))
     unfold b80_0
     by_cases hr:(P[((i:Int)).toNat]!).rank=((k+1:Nat):Int)
     · rw [if_pos hr] at e
       repeat' first|apply W.seq|apply SQn|apply W.region|apply WO.nil|apply W.block|apply W.skip|(apply W.condT;rfl)|(apply WO.lss;rfl;rfl;all_goals first|(intro _;exfalso;omega)|intro _)|(apply WO.eql;rfl;rfl;all_goals first|(intro _;exfalso;omega)|intro _)|(apply WO.iav;rfl;rfl;omega)|(apply WO.lda;rfl;exact fun _=>rfl;(first|omega|(simp only [List.length_set];omega)|(simp;omega));decide;rfl;case ia=>infer_instance)|(apply WO.ldf;rfl;exact fun _=>rfl;(first|omega|(simp only [List.length_set];omega)|(simp;omega));decide;rfl;case ia=>infer_instance)|(apply WO.hlv;rfl;rfl;rfl)|(apply WO.pl;rfl;rfl)
       generalize P[((i:Int)).toNat]! = x at *
       refine OutE.app (f:=placeC) (m:=[x]) (S:=[]) (fun _=>rfl) (fun _=>rfl) (by decide) (ho.grow [_]) (by simp) rfl rfl (Sl.ofAt (f:=placeC) (esz:=5) (l:=[x]) (e:=74) (fun _=>rfl) at_new rfl) hn (fun H w' o' ho' hk hlen=>?_)
       repeat' first|apply SQn|apply W.region|apply WO.nil|apply BQn|(apply WO.add;rfl;rfl;omega)|(apply WO.pl;rfl;rfl)|(apply WO.pp;rfl;rfl)
       exact LIn ⟨_,_,_,_,rfl,by rw [e,← List.append_assoc];exact ho'⟩
     · rw [if_neg hr,List.append_nil] at e
       repeat' first|apply W.seq|apply SQn|apply W.region|apply WO.nil|apply W.block|apply W.skip|apply BQn|(apply W.condT;rfl)|(apply W.condF;rfl)|(apply WO.lss;rfl;rfl;all_goals first|(intro _;exfalso;omega)|intro _)|(apply WO.eql;rfl;rfl;all_goals first|(intro _;exfalso;omega)|intro _)|(apply WO.add;rfl;rfl;omega)|(apply WO.iav;rfl;rfl;omega)|(apply WO.ldf;rfl;exact fun _=>rfl;(first|omega|(simp only [List.length_set];omega)|(simp;omega));decide;rfl;case ia=>infer_instance)|(apply WO.pl;rfl;rfl)|(apply WO.pp;rfl;rfl)
       exact LIn ⟨_,_,_,_,rfl,by rw [e];exact ho⟩
   · subst hs
     rw [List.take_length] at ho
     unfold b80_0
     repeat' first|apply W.seq|apply SQn|apply W.region|apply WO.nil|apply W.exit|apply SQe|apply BQn|apply BQe|apply LIe|(apply W.condF;rfl)|(apply WO.lss;rfl;rfl;all_goals first|(intro _;exfalso;omega)|intro _)|(apply WO.add;rfl;rfl;omega)|(apply WO.pl;rfl;rfl)|(apply WO.pp;rfl;rfl)
     exact LIn ⟨_,_,_,_,_,rfl,ho⟩
 · subst hs
   unfold b80_1
   repeat' first|apply W.seq|apply SQn|apply W.region|apply WO.nil|apply W.block|apply W.exit|apply SQe|apply BQe|apply LIe|(apply W.condF;rfl)|(apply WO.leq;rfl;rfl;all_goals first|(intro _;exfalso;omega)|intro _)|(apply WO.pl;rfl;rfl)|(apply WO.pp;rfl;rfl)
   refine W.loopI P.length (fun i s=>∃ o lo K wr,s=⟨⟨[.vs (placesC P) P.length cap,.nilsl,o,.int .i64 ((P.length+1:Nat):Int),a4,.int .i64 i],lo,K,[]⟩,wr⟩∧OutE placeC 5 74 K o (ordPR P P.length++withRank (P.take i) 0) []) (fun i s hi ⟨o,lo,K,wr,hs,ho⟩=>?_) (fun s ⟨o,lo,K,wr,hs,ho⟩=>?_) (Nat.zero_le _) ⟨_,_,_,_,rfl,by simpa [withRank] using ho⟩
   · subst hs
     have e:=with_take (r:=0) hi
     rw [show P[i]! = P[((i:Int)).toNat]! from rfl] at e
     have hn:=grow_room (P:=P) (k:=P.length) (r:=0) (i:=i) big (room P.length i (by omega) (by omega))
     unfold b80_2
     by_cases hr:(P[((i:Int)).toNat]!).rank=0
     · rw [if_pos hr] at e
       repeat' first|apply W.seq|apply SQn|apply W.region|apply WO.nil|apply W.block|apply W.skip|(apply W.condT;rfl)|(apply WO.lss;rfl;rfl;all_goals first|(intro _;exfalso;omega)|intro _)|(apply WO.eql;rfl;rfl;all_goals first|(intro _;exfalso;omega)|intro _)|(apply WO.iav;rfl;rfl;omega)|(apply WO.lda;rfl;exact fun _=>rfl;(first|omega|(simp only [List.length_set];omega)|(simp;omega));decide;rfl;case ia=>infer_instance)|(apply WO.ldf;rfl;exact fun _=>rfl;(first|omega|(simp only [List.length_set];omega)|(simp;omega));decide;rfl;case ia=>infer_instance)|(apply WO.hlv;rfl;rfl;rfl)|(apply WO.pl;rfl;rfl)
       generalize P[((i:Int)).toNat]! = x at *
       refine OutE.app (f:=placeC) (m:=[x]) (S:=[]) (fun _=>rfl) (fun _=>rfl) (by decide) (ho.grow [_]) (by simp) rfl rfl (Sl.ofAt (f:=placeC) (esz:=5) (l:=[x]) (e:=74) (fun _=>rfl) at_new rfl) hn (fun H w' o' ho' hk hlen=>?_)
       repeat' first|apply SQn|apply W.region|apply WO.nil|apply BQn|(apply WO.add;rfl;rfl;omega)|(apply WO.pl;rfl;rfl)|(apply WO.pp;rfl;rfl)
       exact LIn ⟨_,_,_,_,rfl,by rw [e,← List.append_assoc];exact ho'⟩
     · rw [if_neg hr,List.append_nil] at e
       repeat' first|apply W.seq|apply SQn|apply W.region|apply WO.nil|apply W.block|apply W.skip|apply BQn|(apply W.condT;rfl)|(apply W.condF;rfl)|(apply WO.lss;rfl;rfl;all_goals first|(intro _;exfalso;omega)|intro _)|(apply WO.eql;rfl;rfl;all_goals first|(intro _;exfalso;omega)|intro _)|(apply WO.add;rfl;rfl;omega)|(apply WO.iav;rfl;rfl;omega)|(apply WO.ldf;rfl;exact fun _=>rfl;(first|omega|(simp only [List.length_set];omega)|(simp;omega));decide;rfl;case ia=>infer_instance)|(apply WO.pl;rfl;rfl)|(apply WO.pp;rfl;rfl)
       exact LIn ⟨_,_,_,_,rfl,by rw [e];exact ho⟩
   · subst hs
     rw [List.take_length] at ho
     unfold b80_2
     repeat' first|apply W.seq|apply SQn|apply W.region|apply WO.nil|apply W.ret|apply W.exit|apply SQe|apply BQe|apply LIe|(apply W.condF;rfl)|(apply WO.lss;rfl;rfl;all_goals first|(intro _;exfalso;omega)|intro _)|(apply WO.pl;rfl;rfl)|(apply WO.pp;rfl;rfl)
     exact ⟨.inr rfl,rfl,_,rfl,ho.finN (fun _=>rfl) (fun _=>rfl) (fun _=>rfl)⟩
end Go.Ab.Ch6

/-
  Own work: chapter 6: rankings and results, their errors, copies and comparisons of places.
-/
namespace Go.Ab.Ch6
open Go.Ab.Sort
variable {M:Mach} {cap c1 c2:Option Nat}
abbrev eqMark:EqT:=.strct [(0,1,false,.str),(1,1,false,.int),(2,1,false,.str)]
abbrev eqPlace:EqT:=.strct [(0,1,false,.str),(1,1,false,.int),(2,3,true,eqMark)]
theorem goEq_cons {rec:EqT→AV→AV→Option Bool} {off n:Nat} {ag:Bool} {t:EqT} {rest:List (Nat×Nat×Bool×EqT)} {xs ys:List AV} {x y:AV} (h1:partOf xs off n ag=some x) (h2:partOf ys off n ag=some y) (h3:rec t x y=some true) (h4:goEq rec rest xs ys=some true):goEq rec ((off,n,ag,t)::rest) xs ys=some true:=by
 simp only [goEq,h1,h2,h3,h4]
theorem eqA_str (d:Nat) (s:Str):eqA (d+1) .str (.str s) (.str s)=some true:=by
 rw [eqA,beq_self_eq_true]
theorem eqA_int (d:Nat) (n:Int):eqA (d+1) .int (.int .i64 n) (.int .i64 n)=some true:=by
 rw [eqA,if_pos rfl,beq_self_eq_true]
theorem eqA_strct (d:Nat) (fs:List (Nat×Nat×Bool×EqT)) (xs ys:List AV):eqA (d+1) (.strct fs) (.agg xs) (.agg ys)=goEq (eqA d) fs xs ys:=by
 rw [eqA]
theorem goEq_nil {rec:EqT→AV→AV→Option Bool} {xs ys:List AV}:goEq rec [] xs ys=some true:=rfl
theorem eqA_mark (d:Nat) (k w:Str) (v:Int):eqA (d+2) eqMark (.agg [.str k,.int .i64 v,.str w]) (.agg [.str k,.int .i64 v,.str w])=some true:=
 (eqA_strct (d+1) _ _ _).trans <| goEq_cons (x:=.str k) (y:=.str k) rfl rfl (eqA_str d k) (goEq_cons (x:=.int .i64 v) (y:=.int .i64 v) rfl rfl (eqA_int d v) (goEq_cons (x:=.str w) (y:=.str w) rfl rfl (eqA_str d w) goEq_nil))
theorem eqA_place (p:Place):eqA 100 eqPlace (.agg (placeC p)) (.agg (placeC p))=some true:=
 (eqA_strct 99 _ _ _).trans <| goEq_cons (x:=.str p.who) (y:=.str p.who) rfl rfl (eqA_str 98 p.who) (goEq_cons (x:=.int .i64 p.rank) (y:=.int .i64 p.rank) rfl rfl (eqA_int 98 p.rank) (goEq_cons (x:=.agg [.str p.kind,.int .i64 p.val,.str p.why]) (y:=.agg [.str p.kind,.int .i64 p.val,.str p.why]) rfl rfl (eqA_mark 97 p.kind p.why p.val) goEq_nil))
theorem w29 (hft:M.FT=FT) (P:List Place) (hP:P.length<1000000):Run M 29 [.vs (placesC P) P.length c1,.vs (placesC P) P.length c2] [] ⟨.bool true,[],[]⟩:=by
 refine run_of_W (by rw [hft];exact ft29) (by simp) ?_
 unfold b29
 simp only [enter]
 repeat' first|apply W.seq|apply SQn|apply W.region|apply WO.nil|apply W.block|apply W.skip|(apply W.condF;rfl)|(apply WO.neq;rfl;rfl;all_goals first|(intro _;exfalso;omega)|intro _)|(apply WO.pl;rfl;rfl)|(apply WO.pp;rfl;rfl)
 refine W.loopI P.length (fun i s=>∃ lo wr,s=⟨⟨[.vs (placesC P) P.length c1,.vs (placesC P) P.length c2,.bool false,.int .i64 i],lo,[],[]⟩,wr⟩) (fun i s hi ⟨lo,wr,hs⟩=>?_) (fun s ⟨lo,wr,hs⟩=>?_) (Nat.zero_le _) ⟨_,_,rfl⟩
 · subst hs
   unfold b29_0
   repeat' first|(apply WO.eqV;rfl;rfl;exact eqA_place _)|apply W.seq|apply SQn|apply W.region|apply WO.nil|apply W.block|apply W.skip|apply BQn|(apply W.drawro;rfl)|(apply W.condT;rfl)|(apply W.condF;rfl)|(apply WO.lss;rfl;rfl;all_goals first|(intro _;exfalso;omega)|intro _)|(apply WO.add;rfl;rfl;omega)|(apply WO.iav;rfl;rfl;omega)|(apply WO.lda;rfl;exact fun _=>rfl;(first|omega|(simp only [List.length_set];omega)|(simp;omega));decide;rfl;case ia=>infer_instance)|(apply WO.pl;rfl;rfl)|(apply WO.pp;rfl;rfl)
   exact LIn ⟨_,_,rfl⟩
 · subst hs
   unfold b29_0
   repeat' first|apply W.seq|apply SQn|apply W.region|apply WO.nil|apply W.ret|apply W.exit|apply SQe|apply BQe|apply LIe|(apply W.condF;rfl)|(apply WO.lss;rfl;rfl;all_goals first|(intro _;exfalso;omega)|intro _)|(apply WO.pl;rfl;rfl)|(apply WO.pp;rfl;rfl)
   exact ⟨.inr rfl,rfl,_,rfl,rfl,rfl⟩
theorem w30 (hft:M.FT=FT) (P:List Place) (hP:P.length<1000000):∃ v hh,FrN hh v (.vs (placesC P) P.length none)∧Run M 30 [.vs (placesC P) P.length cap] [] ⟨v,hh,[]⟩:=by
 refine run_ofE (P:=fun v hh=>FrN hh v (.vs (placesC P) P.length none)) (by rw [hft];exact ft30) (by simp) ?_
 unfold b30
 simp only [enter]
 repeat' first|apply W.seq|apply SQn|apply W.region|apply WO.nil|apply W.block|(apply WO.pp;rfl;rfl)
 refine W.loopI P.length (fun i s=>∃ o a3 lo K wr,s=⟨⟨[.vs (placesC P) P.length cap,.nilsl,o,a3,.vs (placesC P) P.length cap,.int .i64 P.length,.int .i64 i],lo,K,[]⟩,wr⟩∧OutE placeC 5 74 K o (P.take i) []) (fun i s hi ⟨o,a3,lo,K,wr,hs,ho⟩=>?_) (fun s ⟨o,a3,lo,K,wr,hs,ho⟩=>?_) (Nat.zero_le _) ⟨_,_,_,_,_,rfl,.ofNil⟩
 · subst hs
   have e:=take_snoc' hi
   rw [show P[i]! = P[((i:Int)).toNat]! from rfl] at e
   have room:((P.take i).length+1)*64≤roomLimit:=by rw [List.length_take];unfold roomLimit;omega
   unfold b30_0
   repeat' first|apply W.seq|apply SQn|apply W.region|apply WO.nil|apply W.block|apply W.skip|(apply W.condT;rfl)|(apply WO.lss;rfl;rfl;all_goals first|(intro _;exfalso;omega)|intro _)|(apply WO.stK;rfl;rfl;exact ⟨rfl,by first|exact Nat.le_refl _|decide|(simp [overwrite]),rfl⟩;rfl)|(apply WO.ldK;rfl;(first|exact at_new|assumption|exact at_old at_new|exact at_old (at_old at_new)|exact at_old (at_old (at_old at_new))|exact at_put (by simp)|((repeat apply at_old);assumption));rfl)|(apply WO.iav;rfl;rfl;omega)|(apply WO.lda;rfl;exact fun _=>rfl;(first|omega|(simp only [List.length_set];omega)|(simp;omega));decide;rfl;case ia=>infer_instance)|(apply WO.hlv;rfl;rfl;rfl)|(apply WO.hpv;rfl;rfl;rfl)|(apply WO.pl;rfl;rfl)
   generalize P[((i:Int)).toNat]! = x at *
   refine OutE.app (f:=placeC) (m:=[x]) (S:=[]) (fun _=>rfl) (fun _=>rfl) (by decide) ((ho.grow [_]).grow [_]) (by simp) rfl rfl (Sl.ofAt (f:=placeC) (esz:=5) (l:=[x]) (e:=74) (fun _=>rfl) at_new rfl) room (fun H w' o' ho' hk hlen=>?_)
   repeat' first|apply SQn|apply W.region|apply WO.nil|apply BQn|(apply WO.add;rfl;rfl;omega)|(apply WO.pp;rfl;rfl)
   exact LIn ⟨_,_,_,_,_,rfl,by rw [e];exact ho'⟩
 · subst hs
   rw [List.take_length] at ho
   unfold b30_0
   repeat' first|apply W.seq|apply SQn|apply W.region|apply WO.nil|apply W.ret|apply W.exit|apply SQe|apply BQe|apply LIe|(apply W.condF;rfl)|(apply WO.lss;rfl;rfl;all_goals first|(intro _;exfalso;omega)|intro _)|(apply WO.pl;rfl;rfl)|(apply WO.pp;rfl;rfl)
   exact ⟨.inr rfl,rfl,_,rfl,ho.finN (fun _=>rfl) (fun _=>rfl) (fun _=>rfl)⟩
end Go.Ab.Ch6

/-
  Own work: chapter 6: the law FieldRanks.
-/
namespace Go.Ab.Ch6
open Go.Ab.Sort
variable {M:Mach}
end Go.Ab.Ch6

/-
  Own work: the contracts of FieldRanks as a table.
-/
namespace Go.Ab.Ch6
open Go.Proofs Go.Ab.Sort
variable {h:Heap} {cap c1 c2:Option Nat}
theorem runC_self {T:List (Nat×Spec)} {g:Nat} {as0:List AV} {v:AV} {hh:Heap} (hr:Run (mach Tryz.prog FT T) g as0 [] ⟨v,hh,[]⟩) (ht:v.top=0) (hn:nov v=true) (hc:canA v=v):RunC Tryz.prog FT T g as0 v:=⟨v,hh,hr,.same ht hn,ht,hc⟩
theorem self_place (p:Place):selfC h (placeC p):=atoms_self rfl
theorem fc_places {l:List Place} {n:Nat} {c:Option Nat}:FrC h (.vs (placesC l) n c) (.vs (placesC l) n c):=.ofVs (selfC_arr self_place l)
theorem fc_place (p:Place):FrC h (.agg (placeC p)) (.agg (placeC p)):=.agg rfl (self_place p).2
theorem vtop_places (l:List Place) {n:Nat} {c:Option Nat}:(AV.vs (placesC l) n c).top=0:=topL_arr (fun _=>rfl) l
theorem can_places (l:List Place) (n:Nat):canA (.vs (placesC l) n none) = .vs (placesC l) n none:=can_arr (fun _=>rfl) l n
theorem k145 {l:List Int} {v:AV} (hs:Sl inC h v l) (hl:l.length<1000000):sC [] 145 [v] h=some ⟨.int .i64 (firstNZ l),h,[]⟩:=by
 obtain ⟨c,hf⟩:=FrC.ofSl (fun _=>atoms_self rfl) hs
 exact specC_eq (.cons hf .nil) (.of (w145 (M:=m0) mach_ft l hl))
theorem k89 (st ret:Bool):sC [] 89 [.bool st,.bool ret] h=some ⟨.agg (markC sNone 0 (noWhy (!st) ret)),h,[]⟩:=
 specC_eq (atoms_self rfl) (runC_self (w89 (M:=m0) mach_ft st ret) rfl rfl rfl)
theorem k79 (idle ret:Bool):sC [] 79 [.bool idle,.bool ret] h=some ⟨.agg (markC sNone 0 (noWhy idle ret)),h,[]⟩:=
 specC_eq (atoms_self rfl) (runC_self (w79 (M:=m0) mach_ft idle ret) rfl rfl rfl)
theorem k30 {P:List Place} (hP:P.length<1000000):sC [] 30 [.vs (placesC P) P.length cap] h=some ⟨.vs (placesC P) P.length none,h,[]⟩:=
 specC_eq (.cons fc_places .nil) (.new (w30 (M:=m0) mach_ft P hP) (vtop_places _) (can_places _ _))
theorem k29 {P:List Place} {v:AV} (hs:Sl placeC h v P) (hP:P.length<1000000):sC [] 29 [.vs (placesC P) P.length c1,v] h=some ⟨.bool true,h,[]⟩:=by
 obtain ⟨c,hf⟩:=FrC.ofSl self_place hs
 exact specC_eq (.cons fc_places (.cons hf .nil)) (.of (w29 (M:=m0) mach_ft P hP))
theorem k80 {P:List Place} {v:AV} (hs:Sl placeC h v P) (hP:P.length<100000):sC [] 80 [v] h=some ⟨.vs (placesC (orderP P)) (orderP P).length none,h,[]⟩:=by
 obtain ⟨c,hf⟩:=FrC.ofSl self_place hs
 exact specC_eq (.cons hf .nil) (.new (w80 (M:=m0) mach_ft P hP) (vtop_places _) (can_places _ _))
end Go.Ab.Ch6

/-
  Own work: the code of the program for cards of a competition over heights.
-/
namespace Go.Ab.Ch6
set_option maxRecDepth 1000000
def b44_0:ICode:=.seq (.region [⟨.l 55,.bin .lss (.p 18) (.p 17),none⟩]) (.seq (.cond (.l 55) (.skip) (.exit 2)) (.seq (.block 3 (.seq (.region [⟨.l 56,.iaddr none 4 (.p 16) (.p 18),none⟩,⟨.l 57,.load 4 true (.l 56),none⟩,⟨.p 11,.alloc 124 [.str [],.nilsl,.nilsl,.bool false],none⟩,⟨.no,.store 4 (.p 11) (.l 57),none⟩]) (.seq (.seq (.region [⟨.l 58,.load 4 true (.p 11),none⟩,⟨.l 59,.call (.c (.fn (.func 90) [] [])) [(.l 58)],none⟩,⟨.l 60,.bin .lss (.l 59) (.c (.int .i64 (0))),none⟩]) (.cond (.l 60) (.exit 3) (.skip))) (.seq (.region [⟨.l 61,.load 4 true (.p 11),none⟩,⟨.l 62,.load 4 true (.p 9),none⟩,⟨.l 63,.call (.c (.fn (.func 91) [] [])) [(.l 61),(.l 62)],none⟩,⟨.p 12,.mv (.l 63),none⟩]) (.seq (.seq (.region [⟨.l 64,.mv (.p 12),none⟩,⟨.l 65,.bin .eql (.l 64) (.c (.int .i64 (0))),none⟩,⟨.l 66,.mv (.l 65),none⟩,⟨.l 67,.mv (.p 6),some ((.l 66),true)⟩,⟨.l 68,.mv (.p 8),some ((.l 66),true)⟩,⟨.l 69,.call (.c (.fn (.func 92) [] [])) [(.l 67),(.l 68)],some ((.l 66),true)⟩,⟨.l 70,.pick (.l 66) (.l 69) (.c (.bool false)),none⟩]) (.cond (.l 70) (.region [⟨.l 71,.load 4 true (.p 11),none⟩,⟨.l 72,.load 4 true (.p 9),none⟩,⟨.l 73,.call (.c (.fn (.func 93) [] [])) [(.l 71),(.l 72)],none⟩,⟨.p 12,.mv (.l 73),none⟩]) (.skip))) (.seq (.region [⟨.l 74,.mv (.p 12),none⟩,⟨.l 75,.bin .gtr (.l 74) (.c (.int .i64 (0))),none⟩]) (.cond (.l 75) (.region [⟨.l 76,.faddr 1 (.p 10),none⟩,⟨.l 77,.load 1 false (.l 76),none⟩,⟨.l 78,.bin .add (.l 77) (.c (.int .i64 (1))),none⟩,⟨.l 79,.faddr 1 (.p 10),none⟩,⟨.no,.store 1 (.l 79) (.l 78),none⟩]) (.skip)))))))) (.region [⟨.l 80,.bin .add (.p 18) (.c (.int .i64 (1))),none⟩,⟨.p 18,.mv (.l 80),none⟩])))
def b44_1:ICode:=.seq (.region [⟨.l 26,.bin .lss (.p 15) (.p 14),none⟩]) (.seq (.cond (.l 26) (.skip) (.exit 0)) (.seq (.block 1 (.seq (.region [⟨.l 27,.mv (.p 15),none⟩,⟨.l 28,.iaddr none 4 (.p 13) (.p 15),none⟩,⟨.l 29,.load 4 true (.l 28),none⟩,⟨.p 9,.alloc 124 [.str [],.nilsl,.nilsl,.bool false],none⟩,⟨.p 8,.mv (.l 27),none⟩,⟨.no,.store 4 (.p 9) (.l 29),none⟩]) (.seq (.draw [(⟨.l 30,.faddr 0 (.p 9),none⟩,[]),(⟨.l 31,.load 1 false (.l 30),none⟩,[]),(⟨.l 32,.faddr 1 (.p 9),none⟩,[0,1]),(⟨.l 33,.load 1 false (.l 32),none⟩,[0,1]),(⟨.l 34,.len .sl (.l 33),none⟩,[0,1]),(⟨.l 35,.bin .gtr (.l 34) (.c (.int .i64 (0))),none⟩,[0,1]),(⟨.l 36,.faddr 3 (.p 9),none⟩,[0,1,2,3,4,5]),(⟨.l 37,.load 1 false (.l 36),none⟩,[0,1,2,3,4,5]),(⟨.l 38,.call (.c (.fn (.func 89) [] [])) [(.l 35),(.l 37)],none⟩,[0,1]),(⟨.l 39,.build [.str [],.int .i64 (0),.str [],.int .i64 (0),.str []] [(0,1,(.l 31)),(2,3,(.l 38))],none⟩,[]),(⟨.p 10,.alloc 116 [.str [],.int .i64 (0),.str [],.int .i64 (0),.str []],none⟩,[0,1,2,3,4,5,6,7,8,9]),(⟨.no,.store 5 (.p 10) (.l 39),none⟩,[])]) (.seq (.seq (.region [⟨.l 40,.load 4 true (.p 9),none⟩,⟨.l 41,.call (.c (.fn (.func 90) [] [])) [(.l 40)],none⟩,⟨.l 42,.bin .geq (.l 41) (.c (.int .i64 (0))),none⟩]) (.cond (.l 42) (.seq (.draw [(⟨.l 43,.faddr 1 (.p 2),none⟩,[]),(⟨.l 44,.load 1 false (.l 43),none⟩,[]),(⟨.l 45,.load 4 true (.p 9),none⟩,[0,1]),(⟨.l 46,.call (.c (.fn (.func 90) [] [])) [(.l 45)],none⟩,[0,1]),(⟨.l 47,.iaddr none 1 (.l 44) (.l 46),none⟩,[]),(⟨.l 48,.load 1 false (.l 47),none⟩,[]),(⟨.l 49,.build [.str [],.int .i64 (0),.str []] [(0,1,(.c (.str [108,101,110,103,116,104]))),(1,1,(.l 48))],none⟩,[]),(⟨.l 50,.faddr 1 (.p 10),none⟩,[0,1,2,3,4,5,6]),(⟨.no,.store 1 (.l 50) (.c (.int .i64 (1))),none⟩,[0,1,4,5,6]),(⟨.l 51,.faddr 2 (.p 10),none⟩,[]),(⟨.no,.store 3 (.l 51) (.l 49),none⟩,[])]) (.seq (.region [⟨.p 16,.mv (.p 1),none⟩,⟨.p 17,.len .sl (.p 16),none⟩,⟨.p 18,.mv (.c (.int .i64 (0))),none⟩]) (.block 2 (.loop b44_0)))) (.skip))) (.region [⟨.l 81,.mv (.p 7),none⟩,⟨.l 82,.load 5 true (.p 10),none⟩,⟨.l 83,.bslice 116 1 5 [.str [],.int .i64 (0),.str [],.int .i64 (0),.str []] [(0,5,(.l 82))],none⟩,⟨.l 84,.append 116 5 64 (.l 81) (.l 83),none⟩,⟨.p 7,.mv (.l 84),none⟩]))))) (.region [⟨.l 85,.bin .add (.p 15) (.c (.int .i64 (1))),none⟩,⟨.p 15,.mv (.l 85),none⟩])))
def b44:ICode:=.seq (.region [⟨.p 2,.box 35 3 (.p 0),none⟩,⟨.p 3,.mv (.c (.nilsl)),none⟩,⟨.p 4,.mv (.c (.int .i64 (0))),none⟩]) (.seq (.seq (.region [⟨.l 15,.load 3 true (.p 2),none⟩,⟨.l 16,.mv (.p 1),none⟩,⟨.l 17,.call (.c (.fn (.func 48) [] [])) [(.l 15),(.l 16)],none⟩,⟨.p 5,.mv (.l 17),none⟩]) (.seq (.region [⟨.l 18,.mv (.p 5),none⟩,⟨.l 19,.bin .neq (.l 18) (.c (.int .i64 (0))),none⟩]) (.cond (.l 19) (.seq (.region [⟨.l 20,.mv (.p 5),none⟩,⟨.p 3,.mv (.c (.nilsl)),none⟩,⟨.p 4,.mv (.l 20),none⟩]) (.ret)) (.skip)))) (.seq (.region [⟨.l 21,.mv (.p 1),none⟩,⟨.l 22,.call (.c (.fn (.func 88) [] [])) [(.l 21)],none⟩,⟨.p 6,.mv (.l 22),none⟩]) (.seq (.region [⟨.p 7,.mv (.c (.nilsl)),none⟩]) (.seq (.seq (.region [⟨.p 13,.mv (.p 1),none⟩,⟨.p 14,.len .sl (.p 13),none⟩,⟨.p 15,.mv (.c (.int .i64 (0))),none⟩]) (.block 0 (.loop b44_1))) (.seq (.region [⟨.l 86,.mv (.p 7),none⟩,⟨.l 87,.call (.c (.fn (.func 94) [] [])) [(.l 86)],none⟩,⟨.p 3,.mv (.l 87),none⟩,⟨.p 4,.mv (.c (.int .i64 (0))),none⟩]) (.ret))))))
theorem ft44:FT 44=some ⟨88,[0,1,2,4,5,6,7,8,9,10,11,13,14,23,24,25,52,53,54],[.var (.p 3),.var (.p 4)],b44⟩:=by kernel_rfl
def b46_0:ICode:=.seq (.region [⟨.l 19,.bin .lss (.p 10) (.p 9),none⟩]) (.seq (.cond (.l 19) (.skip) (.exit 0)) (.seq (.block 1 (.seq (.region [⟨.l 20,.iaddr none 4 (.p 8) (.p 10),none⟩,⟨.l 21,.load 4 true (.l 20),none⟩,⟨.p 7,.alloc 124 [.str [],.nilsl,.nilsl,.bool false],none⟩,⟨.no,.store 4 (.p 7) (.l 21),none⟩]) (.region [⟨.l 22,.mv (.p 6),none⟩,⟨.l 23,.faddr 2 (.p 7),none⟩,⟨.l 24,.load 1 false (.l 23),none⟩,⟨.l 25,.len .sl (.l 24),none⟩,⟨.l 26,.mm true [(.l 22),(.l 25)],none⟩,⟨.p 6,.mv (.l 26),none⟩]))) (.region [⟨.l 27,.bin .add (.p 10) (.c (.int .i64 (1))),none⟩,⟨.p 10,.mv (.l 27),none⟩])))
def b46:ICode:=.seq (.region [⟨.p 2,.box 35 3 (.p 0),none⟩,⟨.p 3,.mv (.c (.nilsl)),none⟩,⟨.p 4,.mv (.c (.int .i64 (0))),none⟩]) (.seq (.seq (.region [⟨.l 10,.load 3 true (.p 2),none⟩,⟨.l 11,.mv (.p 1),none⟩,⟨.l 12,.call (.c (.fn (.func 48) [] [])) [(.l 10),(.l 11)],none⟩,⟨.p 5,.mv (.l 12),none⟩]) (.seq (.region [⟨.l 13,.mv (.p 5),none⟩,⟨.l 14,.bin .neq (.l 13) (.c (.int .i64 (0))),none⟩]) (.cond (.l 14) (.seq (.region [⟨.l 15,.mv (.p 5),none⟩,⟨.p 3,.mv (.c (.nilsl)),none⟩,⟨.p 4,.mv (.l 15),none⟩]) (.ret)) (.skip)))) (.seq (.region [⟨.p 6,.mv (.c (.int .i64 (0))),none⟩]) (.seq (.seq (.region [⟨.p 8,.mv (.p 1),none⟩,⟨.p 9,.len .sl (.p 8),none⟩,⟨.p 10,.mv (.c (.int .i64 (0))),none⟩]) (.block 0 (.loop b46_0))) (.seq (.seq (.region [⟨.l 28,.mv (.p 6),none⟩,⟨.l 29,.bin .eql (.l 28) (.c (.int .i64 (0))),none⟩,⟨.l 30,.mv (.l 29),none⟩,⟨.l 31,.mv (.p 1),some ((.l 30),false)⟩,⟨.l 32,.call (.c (.fn (.func 88) [] [])) [(.l 31)],some ((.l 30),false)⟩,⟨.l 33,.len .sl (.l 32),some ((.l 30),false)⟩,⟨.l 34,.bin .eql (.l 33) (.c (.int .i64 (0))),some ((.l 30),false)⟩,⟨.l 35,.pick (.l 30) (.c (.bool true)) (.l 34),none⟩]) (.cond (.l 35) (.seq (.region [⟨.p 3,.mv (.c (.nilsl)),none⟩,⟨.p 4,.mv (.c (.int .i64 (7))),none⟩]) (.ret)) (.skip))) (.seq (.region [⟨.l 36,.load 3 true (.p 2),none⟩,⟨.l 37,.mv (.p 1),none⟩,⟨.l 38,.mv (.p 6),none⟩,⟨.l 39,.call (.c (.fn (.func 95) [] [])) [(.l 36),(.l 37),(.l 38)],none⟩,⟨.p 3,.mv (.l 39),none⟩,⟨.p 4,.mv (.c (.int .i64 (0))),none⟩]) (.ret))))))
theorem ft46:FT 46=some ⟨40,[0,1,2,4,5,6,7,9,16,17,18],[.var (.p 3),.var (.p 4)],b46⟩:=by kernel_rfl
def b48_0:ICode:=.seq (.region [⟨.l 26,.bin .lss (.p 10) (.p 9),none⟩]) (.seq (.cond (.l 26) (.skip) (.exit 0)) (.seq (.block 1 (.seq (.region [⟨.l 27,.mv (.p 10),none⟩,⟨.l 28,.iaddr none 4 (.p 8) (.p 10),none⟩,⟨.l 29,.load 4 true (.l 28),none⟩,⟨.p 6,.alloc 124 [.str [],.nilsl,.nilsl,.bool false],none⟩,⟨.p 5,.mv (.l 27),none⟩,⟨.no,.store 4 (.p 6) (.l 29),none⟩]) (.seq (.draw [(⟨.l 30,.faddr 0 (.p 6),none⟩,[]),(⟨.l 31,.load 1 false (.l 30),none⟩,[]),(⟨.l 32,.faddr 0 (.p 2),none⟩,[0,1]),(⟨.l 33,.load 1 false (.l 32),none⟩,[0,1]),(⟨.l 34,.mv (.p 5),none⟩,[0,1,2,3]),(⟨.l 35,.iaddr none 1 (.l 33) (.l 34),none⟩,[0,1]),(⟨.l 36,.load 1 false (.l 35),none⟩,[0,1]),(⟨.l 37,.bin .neq (.l 31) (.l 36),none⟩,[]),(⟨.l 38,.call (.c (.fn (.func 64) [] [])) [(.l 37),(.c (.int .i64 (10)))],none⟩,[]),(⟨.l 39,.load 4 true (.p 6),none⟩,[0,1,2,3,4,5,6,7,8]),(⟨.l 40,.call (.c (.fn (.func 97) [] [])) [(.l 39)],none⟩,[]),(⟨.l 41,.faddr 1 (.p 6),none⟩,[0,1,2,3,4,5,6,7,8,9,10]),(⟨.l 42,.load 1 false (.l 41),none⟩,[0,1,2,3,4,5,6,7,8,9,10]),(⟨.l 43,.len .sl (.l 42),none⟩,[0,1,2,3,4,5,6,7,8,9,10]),(⟨.l 44,.faddr 1 (.p 2),none⟩,[0,1,2,3,4,5,6,7,8,9,10,11,12,13]),(⟨.l 45,.load 1 false (.l 44),none⟩,[0,1,2,3,4,5,6,7,8,9,10,11,12,13]),(⟨.l 46,.len .sl (.l 45),none⟩,[0,1,2,3,4,5,6,7,8,9,10,11,12,13]),(⟨.l 47,.bin .gtr (.l 43) (.l 46),none⟩,[0,1,2,3,4,5,6,7,8,9,10]),(⟨.l 48,.call (.c (.fn (.func 64) [] [])) [(.l 47),(.c (.int .i64 (5)))],none⟩,[]),(⟨.l 49,.bslice 30 3 1 [.int .i64 (0)] [(0,1,(.l 38)),(1,1,(.l 40)),(2,1,(.l 48))],none⟩,[]),(⟨.l 50,.call (.c (.fn (.func 61) [] [])) [(.l 49)],none⟩,[]),(⟨.p 7,.mv (.l 50),none⟩,[])]) (.seq (.region [⟨.l 51,.mv (.p 7),none⟩,⟨.l 52,.bin .neq (.l 51) (.c (.int .i64 (0))),none⟩]) (.cond (.l 52) (.seq (.region [⟨.l 53,.mv (.p 7),none⟩,⟨.p 3,.mv (.l 53),none⟩]) (.ret)) (.skip)))))) (.region [⟨.l 54,.bin .add (.p 10) (.c (.int .i64 (1))),none⟩,⟨.p 10,.mv (.l 54),none⟩])))
def b48:ICode:=.seq (.region [⟨.p 2,.box 35 3 (.p 0),none⟩,⟨.p 3,.mv (.c (.int .i64 (0))),none⟩]) (.seq (.seq (.draw [(⟨.l 9,.load 3 true (.p 2),none⟩,[]),(⟨.l 10,.call (.c (.fn (.func 13) [] [])) [(.l 9)],none⟩,[]),(⟨.l 11,.mv (.p 1),none⟩,[0,1]),(⟨.l 12,.len .sl (.l 11),none⟩,[0,1]),(⟨.l 13,.faddr 0 (.p 2),none⟩,[0,1,2,3]),(⟨.l 14,.load 1 false (.l 13),none⟩,[0,1,2,3]),(⟨.l 15,.len .sl (.l 14),none⟩,[0,1,2,3]),(⟨.l 16,.bin .neq (.l 12) (.l 15),none⟩,[0,1]),(⟨.l 17,.call (.c (.fn (.func 64) [] [])) [(.l 16),(.c (.int .i64 (2)))],none⟩,[]),(⟨.l 18,.bslice 30 2 1 [.int .i64 (0)] [(0,1,(.l 10)),(1,1,(.l 17))],none⟩,[]),(⟨.l 19,.call (.c (.fn (.func 61) [] [])) [(.l 18)],none⟩,[]),(⟨.p 4,.mv (.l 19),none⟩,[])]) (.seq (.region [⟨.l 20,.mv (.p 4),none⟩,⟨.l 21,.bin .neq (.l 20) (.c (.int .i64 (0))),none⟩]) (.cond (.l 21) (.seq (.region [⟨.l 22,.mv (.p 4),none⟩,⟨.p 3,.mv (.l 22),none⟩]) (.ret)) (.skip)))) (.seq (.seq (.region [⟨.p 8,.mv (.p 1),none⟩,⟨.p 9,.len .sl (.p 8),none⟩,⟨.p 10,.mv (.c (.int .i64 (0))),none⟩]) (.block 0 (.loop b48_0))) (.seq (.region [⟨.p 3,.mv (.c (.int .i64 (0))),none⟩]) (.ret))))
theorem ft48:FT 48=some ⟨55,[0,1,2,4,5,6,7,8,23,24,25],[.var (.p 3)],b48⟩:=by kernel_rfl
def b88_0:ICode:=.seq (.region [⟨.l 10,.bin .lss (.p 8) (.p 7),none⟩]) (.seq (.cond (.l 10) (.skip) (.exit 0)) (.seq (.block 1 (.seq (.region [⟨.l 11,.mv (.p 8),none⟩,⟨.l 12,.iaddr none 4 (.p 6) (.p 8),none⟩,⟨.l 13,.load 4 true (.l 12),none⟩,⟨.p 4,.alloc 124 [.str [],.nilsl,.nilsl,.bool false],none⟩,⟨.p 3,.mv (.l 11),none⟩,⟨.no,.store 4 (.p 4) (.l 13),none⟩]) (.seq (.seq (.region [⟨.l 14,.load 4 true (.p 4),none⟩,⟨.l 15,.call (.c (.fn (.func 90) [] [])) [(.l 14)],none⟩,⟨.l 16,.bin .lss (.l 15) (.c (.int .i64 (0))),none⟩]) (.cond (.l 16) (.exit 1) (.skip))) (.seq (.seq (.region [⟨.l 17,.mv (.p 2),none⟩,⟨.l 18,.len .sl (.l 17),none⟩,⟨.l 19,.bin .gtr (.l 18) (.c (.int .i64 (0))),none⟩]) (.cond (.l 19) (.seq (.draw [(⟨.l 20,.load 4 true (.p 4),none⟩,[]),(⟨.l 21,.mv (.p 0),none⟩,[0]),(⟨.l 22,.mv (.p 2),none⟩,[0,1]),(⟨.l 23,.iaddr none 1 (.l 22) (.c (.int .i64 (0))),none⟩,[0,1]),(⟨.l 24,.load 1 false (.l 23),none⟩,[0,1]),(⟨.l 25,.iaddr none 4 (.l 21) (.l 24),none⟩,[0]),(⟨.l 26,.load 4 true (.l 25),none⟩,[0]),(⟨.l 27,.call (.c (.fn (.func 91) [] [])) [(.l 20),(.l 26)],none⟩,[]),(⟨.p 5,.mv (.l 27),none⟩,[])]) (.seq (.seq (.region [⟨.l 28,.mv (.p 5),none⟩,⟨.l 29,.bin .lss (.l 28) (.c (.int .i64 (0))),none⟩]) (.cond (.l 29) (.exit 1) (.skip))) (.seq (.region [⟨.l 30,.mv (.p 5),none⟩,⟨.l 31,.bin .gtr (.l 30) (.c (.int .i64 (0))),none⟩]) (.cond (.l 31) (.region [⟨.p 2,.mv (.c (.nilsl)),none⟩]) (.skip))))) (.skip))) (.region [⟨.l 32,.mv (.p 2),none⟩,⟨.l 33,.mv (.p 3),none⟩,⟨.l 34,.bslice 3 1 1 [.int .i64 (0)] [(0,1,(.l 33))],none⟩,⟨.l 35,.append 3 1 8 (.l 32) (.l 34),none⟩,⟨.p 2,.mv (.l 35),none⟩]))))) (.region [⟨.l 36,.bin .add (.p 8) (.c (.int .i64 (1))),none⟩,⟨.p 8,.mv (.l 36),none⟩])))
def b88:ICode:=.seq (.region [⟨.p 1,.mv (.c (.nilsl)),none⟩]) (.seq (.region [⟨.p 2,.mv (.c (.nilsl)),none⟩]) (.seq (.seq (.region [⟨.p 6,.mv (.p 0),none⟩,⟨.p 7,.len .sl (.p 6),none⟩,⟨.p 8,.mv (.c (.int .i64 (0))),none⟩]) (.block 0 (.loop b88_0))) (.seq (.region [⟨.l 37,.mv (.p 2),none⟩,⟨.p 1,.mv (.l 37),none⟩]) (.ret))))
theorem ft88:FT 88=some ⟨38,[0,2,3,4,5,6,7,8,9],[.var (.p 1)],b88⟩:=by kernel_rfl
def b90:ICode:=.seq (.region [⟨.p 1,.box 124 4 (.p 0),none⟩,⟨.p 2,.alloc 3 [.int .i64 (0)],none⟩]) (.seq (.seq (.region [⟨.l 5,.faddr 1 (.p 1),none⟩,⟨.l 6,.load 1 false (.l 5),none⟩,⟨.l 7,.call (.c (.fn (.func 136) [] [])) [(.l 6)],none⟩]) (.block 0 (.rangeFunc false (.l 7) [(.p 5),(.p 6)] (.seq (.region [⟨.p 3,.mv (.p 5),none⟩]) (.region [⟨.p 4,.mv (.p 6),none⟩])) (.block 1 (.seq (.region [⟨.l 10,.mv (.p 4),none⟩,⟨.l 11,.call (.c (.fn (.func 137) [] [])) [(.l 10),(.c (.str [111]))],none⟩]) (.cond (.l 11) (.seq (.region [⟨.l 12,.mv (.p 3),none⟩,⟨.no,.store 1 (.p 2) (.l 12),none⟩]) (.ret)) (.skip))))))) (.seq (.region [⟨.no,.store 1 (.p 2) (.c (.int .i64 (-1))),none⟩]) (.ret)))
theorem ft90:FT 90=some ⟨13,[0,1,2,3,4,8,9],[.cell 1 false (.p 2)],b90⟩:=by kernel_rfl
def b91:ICode:=.seq (.region [⟨.p 2,.box 124 4 (.p 0),none⟩,⟨.p 3,.box 124 4 (.p 1),none⟩,⟨.p 4,.mv (.c (.int .i64 (0))),none⟩]) (.seq (.draw [(⟨.l 7,.load 4 true (.p 2),none⟩,[]),(⟨.l 8,.call (.c (.fn (.func 138) [] [])) [(.l 7)],none⟩,[]),(⟨.l 9,.load 4 true (.p 3),none⟩,[0,1]),(⟨.l 10,.call (.c (.fn (.func 138) [] [])) [(.l 9)],none⟩,[]),(⟨.p 5,.alloc 223 [.int .i64 (0),.int .i64 (0),.int .i64 (0)],none⟩,[0,1,2,3]),(⟨.p 6,.alloc 223 [.int .i64 (0),.int .i64 (0),.int .i64 (0)],none⟩,[0,1,2,3,4]),(⟨.no,.store 3 (.p 5) (.l 8),none⟩,[]),(⟨.no,.store 3 (.p 6) (.l 10),none⟩,[])]) (.seq (.draw [(⟨.l 11,.sliceArr 3 1 (.p 5) none none,none⟩,[]),(⟨.l 12,.sliceArr 3 1 (.p 6) none none,none⟩,[0]),(⟨.l 13,.call (.c (.fn (.func 139) [] [])) [(.l 11),(.l 12)],none⟩,[]),(⟨.p 4,.mv (.l 13),none⟩,[])]) (.ret)))
theorem ft91:FT 91=some ⟨14,[0,1,2,3,4,5,6],[.var (.p 4)],b91⟩:=by kernel_rfl
def b92:ICode:=.seq (.region [⟨.p 2,.mv (.c (.bool false)),none⟩]) (.seq (.region [⟨.l 5,.mv (.p 0),none⟩,⟨.l 6,.mv (.p 1),none⟩,⟨.l 7,.call (.c (.fn (.func 140) [] [])) [(.l 5),(.l 6)],none⟩,⟨.l 8,.bin .geq (.l 7) (.c (.int .i64 (0))),none⟩,⟨.p 2,.mv (.l 8),none⟩]) (.ret))
theorem ft92:FT 92=some ⟨9,[0,1,4],[.var (.p 2)],b92⟩:=by kernel_rfl
def b93_0:ICode:=.seq (.region [⟨.l 16,.bin .lss (.p 9) (.p 8),none⟩]) (.seq (.cond (.l 16) (.skip) (.exit 0)) (.seq (.block 1 (.seq (.region [⟨.l 17,.mv (.p 9),none⟩,⟨.p 6,.mv (.l 17),none⟩]) (.seq (.draw [(⟨.l 18,.mv (.p 5),none⟩,[]),(⟨.l 19,.load 4 true (.p 2),none⟩,[0]),(⟨.l 20,.mv (.p 6),none⟩,[0,1]),(⟨.l 21,.call (.l 18) [(.l 19),(.l 20)],none⟩,[]),(⟨.l 22,.mv (.p 5),none⟩,[0,1,2,3]),(⟨.l 23,.load 4 true (.p 3),none⟩,[0,1,2,3,4]),(⟨.l 24,.mv (.p 6),none⟩,[0,1,2,3,4,5]),(⟨.l 25,.call (.l 22) [(.l 23),(.l 24)],none⟩,[]),(⟨.l 26,.call (.c (.fn (.func 142) [] [])) [(.l 21),(.l 25)],none⟩,[]),(⟨.p 7,.mv (.l 26),none⟩,[])]) (.seq (.region [⟨.l 27,.mv (.p 7),none⟩,⟨.l 28,.bin .neq (.l 27) (.c (.int .i64 (0))),none⟩]) (.cond (.l 28) (.seq (.region [⟨.l 29,.mv (.p 7),none⟩,⟨.p 4,.mv (.l 29),none⟩]) (.ret)) (.skip)))))) (.region [⟨.l 30,.bin .add (.p 9) (.c (.int .i64 (1))),none⟩,⟨.p 9,.mv (.l 30),none⟩])))
def b93:ICode:=.seq (.region [⟨.p 2,.box 124 4 (.p 0),none⟩,⟨.p 3,.box 124 4 (.p 1),none⟩,⟨.p 4,.mv (.c (.int .i64 (0))),none⟩]) (.seq (.region [⟨.p 5,.mv (.c (.fn (.func 141) [] [])),none⟩]) (.seq (.seq (.region [⟨.l 8,.faddr 2 (.p 2),none⟩,⟨.l 9,.load 1 false (.l 8),none⟩,⟨.l 10,.len .sl (.l 9),none⟩,⟨.l 11,.faddr 2 (.p 3),none⟩,⟨.l 12,.load 1 false (.l 11),none⟩,⟨.l 13,.len .sl (.l 12),none⟩,⟨.p 8,.mm true [(.l 10),(.l 13)],none⟩,⟨.p 9,.mv (.c (.int .i64 (0))),none⟩]) (.block 0 (.loop b93_0))) (.seq (.block 2 (.seq (.region [⟨.l 32,.faddr 3 (.p 2),none⟩,⟨.l 33,.load 1 false (.l 32),none⟩,⟨.l 34,.faddr 3 (.p 3),none⟩,⟨.l 35,.load 1 false (.l 34),none⟩,⟨.l 36,.eq false .bool (.l 33) (.l 35),none⟩,⟨.l 31,.mv (.l 36),none⟩]) (.cond (.l 31) (.seq (.region [⟨.p 4,.mv (.c (.int .i64 (0))),none⟩]) (.ret)) (.seq (.region [⟨.l 38,.faddr 3 (.p 3),none⟩,⟨.l 39,.load 1 false (.l 38),none⟩,⟨.l 37,.mv (.l 39),none⟩]) (.cond (.l 37) (.seq (.region [⟨.p 4,.mv (.c (.int .i64 (1))),none⟩]) (.ret)) (.skip)))))) (.seq (.region [⟨.p 4,.mv (.c (.int .i64 (-1))),none⟩]) (.ret)))))
theorem ft93:FT 93=some ⟨40,[0,1,2,3,4,5,6,7,14,15],[.var (.p 4)],b93⟩:=by kernel_rfl
def b95_0:ICode:=.seq (.region [⟨.l 27,.bin .lss (.p 9) (.p 8),none⟩]) (.seq (.cond (.l 27) (.skip) (.exit 0)) (.seq (.block 1 (.seq (.region [⟨.l 28,.mv (.p 9),none⟩,⟨.p 7,.alloc 3 [.int .i64 (0)],none⟩,⟨.no,.store 1 (.p 7) (.l 28),none⟩]) (.seq (.region [⟨.l 29,.mv (.p 6),none⟩,⟨.l 30,.mv (.p 5),none⟩,⟨.l 31,.bslice 3 1 1 [.int .i64 (0)] [(0,1,(.l 30))],none⟩,⟨.l 32,.append 3 1 8 (.l 29) (.l 31),none⟩,⟨.p 6,.mv (.l 32),none⟩]) (.seq (.region [⟨.l 33,.mv (.p 1),none⟩,⟨.l 34,.mkfn (.func 147) [] [(.p 7)],none⟩,⟨.l 35,.call (.c (.fn (.func 146) [] [])) [(.l 33),(.l 34)],none⟩]) (.cond (.l 35) (.region [⟨.l 36,.mv (.p 5),none⟩,⟨.l 37,.faddr 2 (.p 3),none⟩,⟨.l 38,.load 1 false (.l 37),none⟩,⟨.l 39,.bin .add (.l 36) (.l 38),none⟩,⟨.p 5,.mv (.l 39),none⟩]) (.region [⟨.l 40,.faddr 2 (.p 3),none⟩,⟨.l 41,.load 1 false (.l 40),none⟩,⟨.l 42,.mv (.p 5),none⟩,⟨.l 43,.faddr 2 (.p 3),none⟩,⟨.l 44,.load 1 false (.l 43),none⟩,⟨.l 45,.bin .sub (.l 42) (.l 44),none⟩,⟨.l 46,.mm true [(.l 41),(.l 45)],none⟩,⟨.p 5,.mv (.l 46),none⟩])))))) (.region [⟨.l 47,.bin .add (.p 9) (.c (.int .i64 (1))),none⟩,⟨.p 9,.mv (.l 47),none⟩])))
def b95:ICode:=.seq (.region [⟨.p 3,.box 35 3 (.p 0),none⟩,⟨.p 4,.mv (.c (.nilsl)),none⟩]) (.seq (.draw [(⟨.l 10,.faddr 1 (.p 3),none⟩,[]),(⟨.l 11,.load 1 false (.l 10),none⟩,[]),(⟨.l 12,.mv (.p 1),none⟩,[0,1]),(⟨.l 13,.mv (.p 1),none⟩,[0,1,2]),(⟨.l 14,.call (.c (.fn (.func 88) [] [])) [(.l 13)],none⟩,[0,1,2]),(⟨.l 15,.iaddr none 1 (.l 14) (.c (.int .i64 (0))),none⟩,[0,1,2]),(⟨.l 16,.load 1 false (.l 15),none⟩,[0,1,2]),(⟨.l 17,.iaddr none 4 (.l 12) (.l 16),none⟩,[0,1]),(⟨.l 18,.load 4 true (.l 17),none⟩,[0,1]),(⟨.l 19,.call (.c (.fn (.func 90) [] [])) [(.l 18)],none⟩,[0,1]),(⟨.l 20,.iaddr none 1 (.l 11) (.l 19),none⟩,[]),(⟨.l 21,.load 1 false (.l 20),none⟩,[]),(⟨.l 22,.faddr 2 (.p 3),none⟩,[0,1,2,3,4,5,6,7,8,9,10,11]),(⟨.l 23,.load 1 false (.l 22),none⟩,[0,1,2,3,4,5,6,7,8,9,10,11]),(⟨.l 24,.bin .add (.l 21) (.l 23),none⟩,[]),(⟨.p 5,.mv (.l 24),none⟩,[])]) (.seq (.region [⟨.p 6,.mv (.c (.nilsl)),none⟩]) (.seq (.seq (.region [⟨.p 8,.mv (.p 2),none⟩,⟨.p 9,.mv (.c (.int .i64 (0))),none⟩]) (.block 0 (.loop b95_0))) (.seq (.region [⟨.l 48,.mv (.p 6),none⟩,⟨.p 4,.mv (.l 48),none⟩]) (.ret)))))
theorem ft95:FT 95=some ⟨49,[0,1,2,3,6,7,8,9,25,26],[.var (.p 4)],b95⟩:=by kernel_rfl
def b97_0:ICode:=.seq (.region [⟨.l 43,.bin .lss (.p 10) (.p 9),none⟩]) (.seq (.cond (.l 43) (.skip) (.exit 0)) (.seq (.block 1 (.seq (.region [⟨.l 44,.mv (.p 10),none⟩,⟨.l 45,.iaddr none 1 (.p 8) (.p 10),none⟩,⟨.l 46,.load 1 false (.l 45),none⟩,⟨.p 6,.mv (.l 44),none⟩,⟨.p 7,.mv (.l 46),none⟩]) (.seq (.region [⟨.l 47,.mv (.p 5),none⟩,⟨.l 48,.mv (.p 7),none⟩,⟨.l 49,.call (.c (.fn (.func 155) [] [])) [(.l 48)],none⟩,⟨.l 50,.bin .add (.l 47) (.l 49),none⟩,⟨.p 5,.mv (.l 50),none⟩]) (.seq (.seq (.region [⟨.l 51,.mv (.p 5),none⟩,⟨.l 52,.bin .gtr (.l 51) (.c (.int .i64 (3))),none⟩,⟨.l 53,.mv (.l 52),none⟩,⟨.l 54,.mv (.p 5),some ((.l 53),false)⟩,⟨.l 55,.bin .eql (.l 54) (.c (.int .i64 (3))),some ((.l 53),false)⟩,⟨.l 56,.mv (.l 55),some ((.l 53),false)⟩,⟨.l 57,.mv (.p 7),some ((.l 56),true)⟩,⟨.l 58,.call (.c (.fn (.func 156) [] [])) [(.l 57)],some ((.l 56),true)⟩,⟨.l 59,.pick (.l 56) (.l 58) (.c (.bool false)),some ((.l 53),false)⟩,⟨.l 60,.pick (.l 53) (.c (.bool true)) (.l 59),none⟩,⟨.l 61,.mv (.l 60),none⟩,⟨.l 62,.mv (.p 7),some ((.l 61),false)⟩,⟨.l 63,.call (.c (.fn (.func 156) [] [])) [(.l 62)],some ((.l 61),false)⟩,⟨.l 64,.un .not (.l 63),some ((.l 61),false)⟩,⟨.l 65,.mv (.l 64),some ((.l 61),false)⟩,⟨.l 66,.mv (.p 6),some ((.l 65),true)⟩,⟨.l 67,.faddr 1 (.p 1),some ((.l 65),true)⟩,⟨.l 68,.load 1 false (.l 67),some ((.l 65),true)⟩,⟨.l 69,.len .sl (.l 68),some ((.l 65),true)⟩,⟨.l 70,.bin .sub (.l 69) (.c (.int .i64 (1))),some ((.l 65),true)⟩,⟨.l 71,.bin .lss (.l 66) (.l 70),some ((.l 65),true)⟩,⟨.l 72,.pick (.l 65) (.l 71) (.c (.bool false)),some ((.l 61),false)⟩,⟨.l 73,.pick (.l 61) (.c (.bool true)) (.l 72),none⟩]) (.cond (.l 73) (.seq (.region [⟨.p 2,.mv (.c (.int .i64 (19))),none⟩]) (.ret)) (.skip))) (.seq (.region [⟨.l 74,.mv (.p 7),none⟩,⟨.l 75,.call (.c (.fn (.func 137) [] [])) [(.l 74),(.c (.str [111]))],none⟩]) (.cond (.l 75) (.region [⟨.p 5,.mv (.c (.int .i64 (0))),none⟩]) (.skip))))))) (.region [⟨.l 76,.bin .add (.p 10) (.c (.int .i64 (1))),none⟩,⟨.p 10,.mv (.l 76),none⟩])))
def b97:ICode:=.seq (.region [⟨.p 1,.box 124 4 (.p 0),none⟩,⟨.p 2,.mv (.c (.int .i64 (0))),none⟩]) (.seq (.region [⟨.l 8,.faddr 1 (.p 1),none⟩,⟨.l 9,.load 1 false (.l 8),none⟩,⟨.l 10,.call (.c (.fn (.func 151) [] [])) [(.l 9),(.c (.fn (.func 152) [] []))],none⟩,⟨.l 11,.mv (.l 10),none⟩,⟨.l 12,.faddr 2 (.p 1),some ((.l 11),false)⟩,⟨.l 13,.load 1 false (.l 12),some ((.l 11),false)⟩,⟨.l 14,.call (.c (.fn (.func 151) [] [])) [(.l 13),(.c (.fn (.func 154) [] []))],some ((.l 11),false)⟩,⟨.l 15,.pick (.l 11) (.c (.bool true)) (.l 14),none⟩,⟨.p 3,.mv (.l 15),none⟩]) (.seq (.seq (.draw [(⟨.l 16,.faddr 0 (.p 1),none⟩,[]),(⟨.l 17,.load 1 false (.l 16),none⟩,[]),(⟨.l 18,.call (.c (.fn (.func 67) [] [])) [(.l 17)],none⟩,[]),(⟨.l 19,.un .not (.l 18),none⟩,[]),(⟨.l 20,.call (.c (.fn (.func 64) [] [])) [(.l 19),(.c (.int .i64 (8)))],none⟩,[]),(⟨.l 21,.faddr 1 (.p 1),none⟩,[0,1,2,3,4]),(⟨.l 22,.load 1 false (.l 21),none⟩,[0,1,2,3,4]),(⟨.l 23,.len .sl (.l 22),none⟩,[0,1,2,3,4]),(⟨.l 24,.bin .gtr (.l 23) (.c (.int .i64 (24))),none⟩,[0,1,2,3,4]),(⟨.l 25,.mv (.l 24),none⟩,[]),(⟨.l 26,.faddr 2 (.p 1),some ((.l 25),false)⟩,[]),(⟨.l 27,.load 1 false (.l 26),some ((.l 25),false)⟩,[]),(⟨.l 28,.len .sl (.l 27),some ((.l 25),false)⟩,[]),(⟨.l 29,.bin .gtr (.l 28) (.c (.int .i64 (24))),some ((.l 25),false)⟩,[]),(⟨.l 30,.pick (.l 25) (.c (.bool true)) (.l 29),none⟩,[]),(⟨.l 31,.call (.c (.fn (.func 64) [] [])) [(.l 30),(.c (.int .i64 (5)))],none⟩,[]),(⟨.l 32,.mv (.p 3),none⟩,[0,1,2,3,4,5,6,7,8,9,10,11,12,13,14,15]),(⟨.l 33,.call (.c (.fn (.func 64) [] [])) [(.l 32),(.c (.int .i64 (1)))],none⟩,[]),(⟨.l 34,.bslice 30 3 1 [.int .i64 (0)] [(0,1,(.l 20)),(1,1,(.l 31)),(2,1,(.l 33))],none⟩,[]),(⟨.l 35,.call (.c (.fn (.func 61) [] [])) [(.l 34)],none⟩,[]),(⟨.p 4,.mv (.l 35),none⟩,[])]) (.seq (.region [⟨.l 36,.mv (.p 4),none⟩,⟨.l 37,.bin .neq (.l 36) (.c (.int .i64 (0))),none⟩]) (.cond (.l 37) (.seq (.region [⟨.l 38,.mv (.p 4),none⟩,⟨.p 2,.mv (.l 38),none⟩]) (.ret)) (.skip)))) (.seq (.region [⟨.p 5,.mv (.c (.int .i64 (0))),none⟩]) (.seq (.seq (.region [⟨.l 39,.faddr 1 (.p 1),none⟩,⟨.p 8,.load 1 false (.l 39),none⟩,⟨.p 9,.len .sl (.p 8),none⟩,⟨.p 10,.mv (.c (.int .i64 (0))),none⟩]) (.block 0 (.loop b97_0))) (.seq (.region [⟨.p 2,.mv (.c (.int .i64 (0))),none⟩]) (.ret))))))
theorem ft97:FT 97=some ⟨77,[0,1,2,3,4,5,6,7,40,41,42],[.var (.p 2)],b97⟩:=by kernel_rfl
def b136:ICode:=.seq (.region [⟨.p 1,.box 22 1 (.p 0),none⟩,⟨.p 2,.mv (.c (.nilfn)),none⟩]) (.seq (.region [⟨.l 3,.mkfn (.func 190) [] [(.p 1)],none⟩,⟨.p 2,.mv (.l 3),none⟩]) (.ret))
theorem ft136:FT 136=some ⟨4,[0,1,2],[.var (.p 2)],b136⟩:=by kernel_rfl
def b137:ICode:=.seq (.region [⟨.p 2,.mv (.c (.bool false)),none⟩]) (.seq (.region [⟨.l 5,.mv (.p 0),none⟩,⟨.l 6,.mv (.p 1),none⟩,⟨.l 7,.call (.c (.fn (.func 191) [] [])) [(.l 5),(.l 6)],none⟩,⟨.p 2,.mv (.l 7),none⟩]) (.ret))
theorem ft137:FT 137=some ⟨8,[0,1,4],[.var (.p 2)],b137⟩:=by kernel_rfl
def b138_0:ICode:=.seq (.region [⟨.l 16,.bin .lss (.p 8) (.p 7),none⟩]) (.seq (.cond (.l 16) (.skip) (.exit 0)) (.seq (.block 1 (.seq (.region [⟨.l 17,.iaddr none 1 (.p 6) (.p 8),none⟩,⟨.l 18,.load 1 false (.l 17),none⟩,⟨.p 5,.mv (.l 18),none⟩]) (.region [⟨.l 19,.mv (.p 4),none⟩,⟨.l 20,.mv (.p 5),none⟩,⟨.l 21,.call (.c (.fn (.func 155) [] [])) [(.l 20)],none⟩,⟨.l 22,.bin .add (.l 19) (.l 21),none⟩,⟨.p 4,.mv (.l 22),none⟩]))) (.region [⟨.l 23,.bin .add (.p 8) (.c (.int .i64 (1))),none⟩,⟨.p 8,.mv (.l 23),none⟩])))
def b138:ICode:=.seq (.region [⟨.p 1,.box 124 4 (.p 0),none⟩,⟨.p 2,.alloc 223 [.int .i64 (0),.int .i64 (0),.int .i64 (0)],none⟩]) (.seq (.region [⟨.l 7,.load 4 true (.p 1),none⟩,⟨.l 8,.call (.c (.fn (.func 90) [] [])) [(.l 7)],none⟩,⟨.p 3,.mv (.l 8),none⟩]) (.seq (.region [⟨.p 4,.mv (.c (.int .i64 (0))),none⟩]) (.seq (.seq (.region [⟨.l 9,.faddr 1 (.p 1),none⟩,⟨.l 10,.load 1 false (.l 9),none⟩,⟨.l 11,.mv (.p 3),none⟩,⟨.l 12,.bin .add (.l 11) (.c (.int .i64 (1))),none⟩,⟨.p 6,.slice .sl 1 (.l 10) none (some (.l 12)) none,none⟩,⟨.p 7,.len .sl (.p 6),none⟩,⟨.p 8,.mv (.c (.int .i64 (0))),none⟩]) (.block 0 (.loop b138_0))) (.seq (.region [⟨.l 24,.mv (.p 3),none⟩,⟨.l 25,.faddr 1 (.p 1),none⟩,⟨.l 26,.load 1 false (.l 25),none⟩,⟨.l 27,.mv (.p 3),none⟩,⟨.l 28,.iaddr none 1 (.l 26) (.l 27),none⟩,⟨.l 29,.load 1 false (.l 28),none⟩,⟨.l 30,.call (.c (.fn (.func 155) [] [])) [(.l 29)],none⟩,⟨.l 31,.un .neg (.l 30),none⟩,⟨.l 32,.mv (.p 4),none⟩,⟨.l 33,.un .neg (.l 32),none⟩,⟨.l 34,.build [.int .i64 (0),.int .i64 (0),.int .i64 (0)] [(0,1,(.l 24)),(1,1,(.l 31)),(2,1,(.l 33))],none⟩,⟨.no,.store 3 (.p 2) (.l 34),none⟩]) (.ret)))))
theorem ft138:FT 138=some ⟨35,[0,1,2,3,4,6,13,14,15],[.cell 3 true (.p 2)],b138⟩:=by kernel_rfl
def b140_0:ICode:=.seq (.region [⟨.l 9,.bin .lss (.p 5) (.p 4),none⟩]) (.seq (.cond (.l 9) (.skip) (.exit 0)) (.seq (.block 1 (.seq (.region [⟨.l 10,.mv (.p 5),none⟩,⟨.p 3,.mv (.l 10),none⟩]) (.seq (.region [⟨.l 11,.mv (.p 1),none⟩,⟨.l 12,.mv (.p 0),none⟩,⟨.l 13,.mv (.p 3),none⟩,⟨.l 14,.iaddr none 1 (.l 12) (.l 13),none⟩,⟨.l 15,.load 1 false (.l 14),none⟩,⟨.l 16,.bin .eql (.l 11) (.l 15),none⟩]) (.cond (.l 16) (.seq (.region [⟨.l 17,.mv (.p 3),none⟩,⟨.p 2,.mv (.l 17),none⟩]) (.ret)) (.skip))))) (.region [⟨.l 18,.bin .add (.p 5) (.c (.int .i64 (1))),none⟩,⟨.p 5,.mv (.l 18),none⟩])))
def b140:ICode:=.seq (.region [⟨.p 2,.mv (.c (.int .i64 (0))),none⟩]) (.seq (.seq (.region [⟨.l 6,.mv (.p 0),none⟩,⟨.p 4,.len .sl (.l 6),none⟩,⟨.p 5,.mv (.c (.int .i64 (0))),none⟩]) (.block 0 (.loop b140_0))) (.seq (.region [⟨.p 2,.mv (.c (.int .i64 (-1))),none⟩]) (.ret)))
theorem ft140:FT 140=some ⟨19,[0,1,4,5,7,8],[.var (.p 2)],b140⟩:=by kernel_rfl
def b141:ICode:=.seq (.region [⟨.p 2,.box 124 4 (.p 0),none⟩,⟨.p 3,.mv (.c (.int .i64 (0))),none⟩]) (.seq (.block 0 (.seq (.region [⟨.l 6,.mv (.p 1),none⟩,⟨.l 7,.faddr 2 (.p 2),none⟩,⟨.l 8,.load 1 false (.l 7),none⟩,⟨.l 9,.len .sl (.l 8),none⟩,⟨.l 10,.bin .geq (.l 6) (.l 9),none⟩,⟨.l 5,.mv (.l 10),none⟩]) (.cond (.l 5) (.seq (.region [⟨.p 3,.mv (.c (.int .i64 (0))),none⟩]) (.ret)) (.seq (.region [⟨.l 12,.faddr 2 (.p 2),none⟩,⟨.l 13,.load 1 false (.l 12),none⟩,⟨.l 14,.mv (.p 1),none⟩,⟨.l 15,.iaddr none 1 (.l 13) (.l 14),none⟩,⟨.l 16,.load 1 false (.l 15),none⟩,⟨.l 17,.bin .eql (.l 16) (.c (.str [120])),none⟩,⟨.l 11,.mv (.l 17),none⟩]) (.cond (.l 11) (.seq (.region [⟨.p 3,.mv (.c (.int .i64 (1))),none⟩]) (.ret)) (.skip)))))) (.seq (.region [⟨.p 3,.mv (.c (.int .i64 (2))),none⟩]) (.ret)))
theorem ft141:FT 141=some ⟨18,[0,1,2,4],[.var (.p 3)],b141⟩:=by kernel_rfl
def b146:ICode:=.seq (.region [⟨.p 2,.mv (.c (.bool false)),none⟩]) (.seq (.region [⟨.l 5,.mv (.p 0),none⟩,⟨.l 6,.mv (.p 1),none⟩,⟨.l 7,.call (.c (.fn (.func 194) [] [])) [(.l 5),(.l 6)],none⟩,⟨.l 8,.bin .geq (.l 7) (.c (.int .i64 (0))),none⟩,⟨.p 2,.mv (.l 8),none⟩]) (.ret))
theorem ft146:FT 146=some ⟨9,[0,1,4],[.var (.p 2)],b146⟩:=by kernel_rfl
def b147:ICode:=.seq (.region [⟨.p 2,.box 124 4 (.p 0),none⟩,⟨.p 3,.mv (.c (.bool false)),none⟩]) (.seq (.region [⟨.l 4,.load 1 false (.p 1),none⟩,⟨.l 5,.faddr 2 (.p 2),none⟩,⟨.l 6,.load 1 false (.l 5),none⟩,⟨.l 7,.len .sl (.l 6),none⟩,⟨.l 8,.bin .lss (.l 4) (.l 7),none⟩,⟨.l 9,.mv (.l 8),none⟩,⟨.l 10,.faddr 2 (.p 2),some ((.l 9),true)⟩,⟨.l 11,.load 1 false (.l 10),some ((.l 9),true)⟩,⟨.l 12,.load 1 false (.p 1),some ((.l 9),true)⟩,⟨.l 13,.iaddr none 1 (.l 11) (.l 12),some ((.l 9),true)⟩,⟨.l 14,.load 1 false (.l 13),some ((.l 9),true)⟩,⟨.l 15,.bin .eql (.l 14) (.c (.str [111])),some ((.l 9),true)⟩,⟨.l 16,.pick (.l 9) (.l 15) (.c (.bool false)),none⟩,⟨.p 3,.mv (.l 16),none⟩]) (.ret))
theorem ft147:FT 147=some ⟨17,[0,1,2,3],[.var (.p 3)],b147⟩:=by kernel_rfl
def b151:ICode:=.seq (.region [⟨.p 2,.mv (.c (.bool false)),none⟩]) (.seq (.region [⟨.l 5,.mv (.p 0),none⟩,⟨.l 6,.mv (.p 1),none⟩,⟨.l 7,.call (.c (.fn (.func 195) [] [])) [(.l 5),(.l 6)],none⟩,⟨.l 8,.bin .geq (.l 7) (.c (.int .i64 (0))),none⟩,⟨.p 2,.mv (.l 8),none⟩]) (.ret))
theorem ft151:FT 151=some ⟨9,[0,1,4],[.var (.p 2)],b151⟩:=by kernel_rfl
def b152:ICode:=.seq (.region [⟨.p 1,.mv (.c (.bool false)),none⟩]) (.seq (.region [⟨.l 3,.mv (.p 0),none⟩,⟨.l 4,.call (.c (.fn (.func 153) [] [])) [(.l 3)],none⟩,⟨.l 5,.un .not (.l 4),none⟩,⟨.p 1,.mv (.l 5),none⟩]) (.ret))
theorem ft152:FT 152=some ⟨6,[0,2],[.var (.p 1)],b152⟩:=by kernel_rfl
def b153_0:ICode:=.seq (.region [⟨.p 6,.next (.p 5),none⟩,⟨.l 9,.extract 0 (.p 6),none⟩]) (.seq (.cond (.l 9) (.skip) (.exit 0)) (.block 1 (.seq (.region [⟨.l 10,.extract 1 (.p 6),none⟩,⟨.l 11,.extract 2 (.p 6),none⟩,⟨.p 2,.mv (.l 10),none⟩,⟨.p 3,.mv (.l 11),none⟩]) (.seq (.region [⟨.l 12,.mv (.p 2),none⟩,⟨.l 13,.mv (.p 0),none⟩,⟨.l 14,.len .str (.l 13),none⟩,⟨.l 15,.bin .sub (.l 14) (.c (.int .i64 (1))),none⟩,⟨.l 16,.bin .eql (.l 12) (.l 15),none⟩,⟨.l 17,.mv (.l 16),none⟩,⟨.l 18,.mv (.p 3),some ((.l 17),true)⟩,⟨.l 19,.bin .eql (.l 18) (.c (.int .i32 (111))),some ((.l 17),true)⟩,⟨.l 20,.mv (.l 19),some ((.l 17),true)⟩,⟨.l 21,.mv (.p 3),some ((.l 20),false)⟩,⟨.l 22,.bin .eql (.l 21) (.c (.int .i32 (45))),some ((.l 20),false)⟩,⟨.l 23,.pick (.l 20) (.c (.bool true)) (.l 22),some ((.l 17),true)⟩,⟨.l 24,.pick (.l 17) (.l 23) (.c (.bool false)),none⟩,⟨.p 4,.mv (.l 24),none⟩]) (.seq (.region [⟨.l 25,.mv (.p 3),none⟩,⟨.l 26,.bin .neq (.l 25) (.c (.int .i32 (120))),none⟩,⟨.l 27,.mv (.l 26),none⟩,⟨.l 28,.mv (.p 4),some ((.l 27),true)⟩,⟨.l 29,.un .not (.l 28),some ((.l 27),true)⟩,⟨.l 30,.pick (.l 27) (.l 29) (.c (.bool false)),none⟩]) (.cond (.l 30) (.seq (.region [⟨.p 1,.mv (.c (.bool false)),none⟩]) (.ret)) (.skip)))))))
def b153:ICode:=.seq (.region [⟨.p 1,.mv (.c (.bool false)),none⟩]) (.seq (.seq (.region [⟨.l 6,.mv (.p 0),none⟩,⟨.p 5,.range (.l 6),none⟩]) (.block 0 (.loop b153_0))) (.seq (.region [⟨.l 31,.mv (.p 0),none⟩,⟨.l 32,.bin .neq (.l 31) (.c (.str [])),none⟩,⟨.l 33,.mv (.l 32),none⟩,⟨.l 34,.mv (.p 0),some ((.l 33),true)⟩,⟨.l 35,.len .str (.l 34),some ((.l 33),true)⟩,⟨.l 36,.bin .leq (.l 35) (.c (.int .i64 (3))),some ((.l 33),true)⟩,⟨.l 37,.pick (.l 33) (.l 36) (.c (.bool false)),none⟩,⟨.p 1,.mv (.l 37),none⟩]) (.ret)))
theorem ft153:FT 153=some ⟨38,[0,2,3,4,5,7,8],[.var (.p 1)],b153⟩:=by kernel_rfl
def b154:ICode:=.seq (.region [⟨.p 1,.mv (.c (.bool false)),none⟩]) (.seq (.region [⟨.l 3,.mv (.p 0),none⟩,⟨.l 4,.bin .neq (.l 3) (.c (.str [111])),none⟩,⟨.l 5,.mv (.l 4),none⟩,⟨.l 6,.mv (.p 0),some ((.l 5),true)⟩,⟨.l 7,.bin .neq (.l 6) (.c (.str [120])),some ((.l 5),true)⟩,⟨.l 8,.pick (.l 5) (.l 7) (.c (.bool false)),none⟩,⟨.p 1,.mv (.l 8),none⟩]) (.ret))
theorem ft154:FT 154=some ⟨9,[0,2],[.var (.p 1)],b154⟩:=by kernel_rfl
def b155:ICode:=.seq (.region [⟨.p 1,.mv (.c (.int .i64 (0))),none⟩]) (.seq (.region [⟨.l 3,.mv (.p 0),none⟩,⟨.l 4,.call (.c (.fn (.func 196) [] [])) [(.l 3),(.c (.str [120]))],none⟩,⟨.p 1,.mv (.l 4),none⟩]) (.ret))
theorem ft155:FT 155=some ⟨5,[0,2],[.var (.p 1)],b155⟩:=by kernel_rfl
def b156:ICode:=.seq (.region [⟨.p 1,.mv (.c (.bool false)),none⟩]) (.seq (.region [⟨.l 3,.mv (.p 0),none⟩,⟨.l 4,.call (.c (.fn (.func 137) [] [])) [(.l 3),(.c (.str [111]))],none⟩,⟨.l 5,.mv (.l 4),none⟩,⟨.l 6,.mv (.p 0),some ((.l 5),false)⟩,⟨.l 7,.call (.c (.fn (.func 137) [] [])) [(.l 6),(.c (.str [45]))],some ((.l 5),false)⟩,⟨.l 8,.pick (.l 5) (.c (.bool true)) (.l 7),none⟩,⟨.p 1,.mv (.l 8),none⟩]) (.ret))
theorem ft156:FT 156=some ⟨9,[0,2],[.var (.p 1)],b156⟩:=by kernel_rfl
def b190_0:ICode:=.seq (.seq (.region [⟨.l 7,.mv (.p 2),none⟩,⟨.l 8,.bin .geq (.l 7) (.c (.int .i64 (0))),none⟩]) (.cond (.l 8) (.skip) (.exit 0))) (.seq (.block 1 (.seq (.region [⟨.l 11,.mv (.p 0),none⟩,⟨.l 12,.mv (.p 2),none⟩,⟨.l 13,.load 1 false (.p 1),none⟩,⟨.l 14,.mv (.p 2),none⟩,⟨.l 15,.iaddr none 1 (.l 13) (.l 14),none⟩,⟨.l 16,.load 1 false (.l 15),none⟩,⟨.l 17,.call (.l 11) [(.l 12),(.l 16)],none⟩,⟨.l 18,.un .not (.l 17),none⟩]) (.cond (.l 18) (.ret) (.skip)))) (.region [⟨.l 9,.mv (.p 2),none⟩,⟨.l 10,.bin .sub (.l 9) (.c (.int .i64 (1))),none⟩,⟨.p 2,.mv (.l 10),none⟩]))
def b190:ICode:=.seq (.region [⟨.l 4,.load 1 false (.p 1),none⟩,⟨.l 5,.len .sl (.l 4),none⟩,⟨.l 6,.bin .sub (.l 5) (.c (.int .i64 (1))),none⟩,⟨.p 2,.mv (.l 6),none⟩]) (.block 0 (.loop b190_0))
theorem ft190:FT 190=some ⟨19,[0,1,3],[],b190⟩:=by kernel_rfl
def b191:ICode:=.seq (.region [⟨.p 2,.mv (.c (.bool false)),none⟩]) (.seq (.region [⟨.l 5,.mv (.p 0),none⟩,⟨.l 6,.len .str (.l 5),none⟩,⟨.l 7,.mv (.p 1),none⟩,⟨.l 8,.len .str (.l 7),none⟩,⟨.l 9,.bin .geq (.l 6) (.l 8),none⟩,⟨.l 10,.mv (.l 9),none⟩,⟨.l 11,.mv (.p 0),some ((.l 10),true)⟩,⟨.l 12,.mv (.p 0),some ((.l 10),true)⟩,⟨.l 13,.len .str (.l 12),some ((.l 10),true)⟩,⟨.l 14,.mv (.p 1),some ((.l 10),true)⟩,⟨.l 15,.len .str (.l 14),some ((.l 10),true)⟩,⟨.l 16,.bin .sub (.l 13) (.l 15),some ((.l 10),true)⟩,⟨.l 17,.slice .str 1 (.l 11) (some (.l 16)) none none,some ((.l 10),true)⟩,⟨.l 18,.mv (.p 1),some ((.l 10),true)⟩,⟨.l 19,.bin .eql (.l 17) (.l 18),some ((.l 10),true)⟩,⟨.l 20,.pick (.l 10) (.l 19) (.c (.bool false)),none⟩,⟨.p 2,.mv (.l 20),none⟩]) (.ret))
theorem ft191:FT 191=some ⟨21,[0,1,4],[.var (.p 2)],b191⟩:=by kernel_rfl
def b194_0:ICode:=.seq (.region [⟨.l 9,.bin .lss (.p 5) (.p 4),none⟩]) (.seq (.cond (.l 9) (.skip) (.exit 0)) (.seq (.block 1 (.seq (.region [⟨.l 10,.mv (.p 5),none⟩,⟨.p 3,.mv (.l 10),none⟩]) (.seq (.region [⟨.l 11,.mv (.p 1),none⟩,⟨.l 12,.mv (.p 0),none⟩,⟨.l 13,.mv (.p 3),none⟩,⟨.l 14,.iaddr none 4 (.l 12) (.l 13),none⟩,⟨.l 15,.load 4 true (.l 14),none⟩,⟨.l 16,.call (.l 11) [(.l 15)],none⟩]) (.cond (.l 16) (.seq (.region [⟨.l 17,.mv (.p 3),none⟩,⟨.p 2,.mv (.l 17),none⟩]) (.ret)) (.skip))))) (.region [⟨.l 18,.bin .add (.p 5) (.c (.int .i64 (1))),none⟩,⟨.p 5,.mv (.l 18),none⟩])))
def b194:ICode:=.seq (.region [⟨.p 2,.mv (.c (.int .i64 (0))),none⟩]) (.seq (.seq (.region [⟨.l 6,.mv (.p 0),none⟩,⟨.p 4,.len .sl (.l 6),none⟩,⟨.p 5,.mv (.c (.int .i64 (0))),none⟩]) (.block 0 (.loop b194_0))) (.seq (.region [⟨.p 2,.mv (.c (.int .i64 (-1))),none⟩]) (.ret)))
theorem ft194:FT 194=some ⟨19,[0,1,4,5,7,8],[.var (.p 2)],b194⟩:=by kernel_rfl
def b195_0:ICode:=.seq (.region [⟨.l 9,.bin .lss (.p 5) (.p 4),none⟩]) (.seq (.cond (.l 9) (.skip) (.exit 0)) (.seq (.block 1 (.seq (.region [⟨.l 10,.mv (.p 5),none⟩,⟨.p 3,.mv (.l 10),none⟩]) (.seq (.region [⟨.l 11,.mv (.p 1),none⟩,⟨.l 12,.mv (.p 0),none⟩,⟨.l 13,.mv (.p 3),none⟩,⟨.l 14,.iaddr none 1 (.l 12) (.l 13),none⟩,⟨.l 15,.load 1 false (.l 14),none⟩,⟨.l 16,.call (.l 11) [(.l 15)],none⟩]) (.cond (.l 16) (.seq (.region [⟨.l 17,.mv (.p 3),none⟩,⟨.p 2,.mv (.l 17),none⟩]) (.ret)) (.skip))))) (.region [⟨.l 18,.bin .add (.p 5) (.c (.int .i64 (1))),none⟩,⟨.p 5,.mv (.l 18),none⟩])))
def b195:ICode:=.seq (.region [⟨.p 2,.mv (.c (.int .i64 (0))),none⟩]) (.seq (.seq (.region [⟨.l 6,.mv (.p 0),none⟩,⟨.p 4,.len .sl (.l 6),none⟩,⟨.p 5,.mv (.c (.int .i64 (0))),none⟩]) (.block 0 (.loop b195_0))) (.seq (.region [⟨.p 2,.mv (.c (.int .i64 (-1))),none⟩]) (.ret)))
theorem ft195:FT 195=some ⟨19,[0,1,4,5,7,8],[.var (.p 2)],b195⟩:=by kernel_rfl
def b196_0:ICode:=.block 1 (.seq (.region [⟨.l 20,.mv (.p 0),none⟩,⟨.l 21,.mv (.p 1),none⟩,⟨.l 22,.call (.c (.fn (.func 233) [] [])) [(.l 20),(.l 21)],none⟩,⟨.p 4,.mv (.l 22),none⟩]) (.seq (.seq (.region [⟨.l 23,.mv (.p 4),none⟩,⟨.l 24,.bin .eql (.l 23) (.c (.int .i64 (-1))),none⟩]) (.cond (.l 24) (.seq (.region [⟨.l 25,.mv (.p 3),none⟩,⟨.p 2,.mv (.l 25),none⟩]) (.ret)) (.skip))) (.seq (.region [⟨.l 26,.mv (.p 3),none⟩,⟨.l 27,.bin .add (.l 26) (.c (.int .i64 (1))),none⟩,⟨.p 3,.mv (.l 27),none⟩]) (.region [⟨.l 28,.mv (.p 0),none⟩,⟨.l 29,.mv (.p 4),none⟩,⟨.l 30,.mv (.p 1),none⟩,⟨.l 31,.len .str (.l 30),none⟩,⟨.l 32,.bin .add (.l 29) (.l 31),none⟩,⟨.l 33,.slice .str 1 (.l 28) (some (.l 32)) none none,none⟩,⟨.p 0,.mv (.l 33),none⟩]))))
def b196:ICode:=.seq (.region [⟨.p 2,.mv (.c (.int .i64 (0))),none⟩]) (.seq (.seq (.region [⟨.l 7,.mv (.p 1),none⟩,⟨.l 8,.len .str (.l 7),none⟩,⟨.l 9,.bin .eql (.l 8) (.c (.int .i64 (0))),none⟩]) (.cond (.l 9) (.seq (.region [⟨.l 10,.mv (.p 0),none⟩,⟨.l 11,.call (.c (.fn (.func 231) [] [])) [(.l 10)],none⟩,⟨.l 12,.bin .add (.l 11) (.c (.int .i64 (1))),none⟩,⟨.p 2,.mv (.l 12),none⟩]) (.ret)) (.skip))) (.seq (.seq (.region [⟨.l 13,.mv (.p 1),none⟩,⟨.l 14,.len .str (.l 13),none⟩,⟨.l 15,.bin .eql (.l 14) (.c (.int .i64 (1))),none⟩]) (.cond (.l 15) (.seq (.region [⟨.l 16,.mv (.p 0),none⟩,⟨.l 17,.mv (.p 1),none⟩,⟨.l 18,.index (.l 17) (.c (.int .i64 (0))),none⟩,⟨.l 19,.call (.c (.fn (.func 232) [] [])) [(.l 16),(.l 18)],none⟩,⟨.p 2,.mv (.l 19),none⟩]) (.ret)) (.skip))) (.seq (.region [⟨.p 3,.mv (.c (.int .i64 (0))),none⟩]) (.block 0 (.loop b196_0)))))
theorem ft196:FT 196=some ⟨34,[0,1,4,5,6],[.var (.p 2)],b196⟩:=by kernel_rfl
end Go.Ab.Ch6

/-
  Own work: the code of the reference for cards of a competition over heights.
-/
namespace Go.Ab.Ch6
set_option maxRecDepth 1000000
def b43_0:ICode:=.seq (.region [⟨.l 25,.bin .lss (.p 7) (.p 6),none⟩]) (.seq (.cond (.l 25) (.skip) (.exit 0)) (.seq (.block 1 (.seq (.region [⟨.l 26,.iaddr none 4 (.p 5) (.p 7),none⟩,⟨.l 27,.load 4 true (.l 26),none⟩,⟨.p 4,.alloc 167 [.str [],.nilsl,.nilsl,.bool false],none⟩,⟨.no,.store 4 (.p 4) (.l 27),none⟩]) (.seq (.region [⟨.l 28,.load 4 true (.p 4),none⟩,⟨.l 29,.call (.c (.fn (.func 87) [] [])) [(.l 28)],none⟩,⟨.l 30,.un .not (.l 29),none⟩]) (.cond (.l 30) (.seq (.region [⟨.p 3,.mv (.c (.bool false)),none⟩]) (.ret)) (.skip))))) (.region [⟨.l 31,.bin .add (.p 7) (.c (.int .i64 (1))),none⟩,⟨.p 7,.mv (.l 31),none⟩])))
def b43:ICode:=.seq (.region [⟨.p 2,.box 27 3 (.p 0),none⟩,⟨.p 3,.mv (.c (.bool false)),none⟩]) (.seq (.seq (.region [⟨.l 7,.faddr 0 (.p 2),none⟩,⟨.l 8,.load 1 false (.l 7),none⟩,⟨.l 9,.call (.c (.fn (.func 9) [] [])) [(.l 8)],none⟩,⟨.l 10,.un .not (.l 9),none⟩,⟨.l 11,.mv (.l 10),none⟩,⟨.l 12,.faddr 1 (.p 2),some ((.l 11),false)⟩,⟨.l 13,.load 1 false (.l 12),some ((.l 11),false)⟩,⟨.l 14,.len .sl (.l 13),some ((.l 11),false)⟩,⟨.l 15,.bin .gtr (.l 14) (.c (.int .i64 (27))),some ((.l 11),false)⟩,⟨.l 16,.pick (.l 11) (.c (.bool true)) (.l 15),none⟩,⟨.l 17,.mv (.l 16),none⟩,⟨.l 18,.mv (.p 1),some ((.l 17),false)⟩,⟨.l 19,.len .sl (.l 18),some ((.l 17),false)⟩,⟨.l 20,.bin .gtr (.l 19) (.c (.int .i64 (35))),some ((.l 17),false)⟩,⟨.l 21,.pick (.l 17) (.c (.bool true)) (.l 20),none⟩]) (.cond (.l 21) (.seq (.region [⟨.p 3,.mv (.c (.bool false)),none⟩]) (.ret)) (.skip))) (.seq (.seq (.region [⟨.p 5,.mv (.p 1),none⟩,⟨.p 6,.len .sl (.p 5),none⟩,⟨.p 7,.mv (.c (.int .i64 (0))),none⟩]) (.block 0 (.loop b43_0))) (.seq (.region [⟨.p 3,.mv (.c (.bool true)),none⟩]) (.ret))))
theorem ft43:FT 43=some ⟨32,[0,1,2,4,6,22,23,24],[.var (.p 3)],b43⟩:=by kernel_rfl
def b87_0:ICode:=.seq (.seq (.region [⟨.l 21,.mv (.p 3),none⟩,⟨.l 22,.faddr 1 (.p 1),none⟩,⟨.l 23,.load 1 false (.l 22),none⟩,⟨.l 24,.len .sl (.l 23),none⟩,⟨.l 25,.bin .lss (.l 21) (.l 24),none⟩]) (.cond (.l 25) (.skip) (.exit 0))) (.seq (.block 1 (.seq (.region [⟨.l 28,.faddr 1 (.p 1),none⟩,⟨.l 29,.load 1 false (.l 28),none⟩,⟨.l 30,.mv (.p 3),none⟩,⟨.l 31,.iaddr none 1 (.l 29) (.l 30),none⟩,⟨.l 32,.load 1 false (.l 31),none⟩,⟨.l 33,.len .str (.l 32),none⟩,⟨.l 34,.bin .gtr (.l 33) (.c (.int .i64 (10))),none⟩]) (.cond (.l 34) (.seq (.region [⟨.p 2,.mv (.c (.bool false)),none⟩]) (.ret)) (.skip)))) (.region [⟨.l 26,.mv (.p 3),none⟩,⟨.l 27,.bin .add (.l 26) (.c (.int .i64 (1))),none⟩,⟨.p 3,.mv (.l 27),none⟩]))
def b87_1:ICode:=.seq (.seq (.region [⟨.l 35,.mv (.p 4),none⟩,⟨.l 36,.faddr 2 (.p 1),none⟩,⟨.l 37,.load 1 false (.l 36),none⟩,⟨.l 38,.len .sl (.l 37),none⟩,⟨.l 39,.bin .lss (.l 35) (.l 38),none⟩]) (.cond (.l 39) (.skip) (.exit 2))) (.seq (.block 3 (.seq (.region [⟨.l 42,.faddr 2 (.p 1),none⟩,⟨.l 43,.load 1 false (.l 42),none⟩,⟨.l 44,.mv (.p 4),none⟩,⟨.l 45,.iaddr none 1 (.l 43) (.l 44),none⟩,⟨.l 46,.load 1 false (.l 45),none⟩,⟨.l 47,.len .str (.l 46),none⟩,⟨.l 48,.bin .gtr (.l 47) (.c (.int .i64 (10))),none⟩]) (.cond (.l 48) (.seq (.region [⟨.p 2,.mv (.c (.bool false)),none⟩]) (.ret)) (.skip)))) (.region [⟨.l 40,.mv (.p 4),none⟩,⟨.l 41,.bin .add (.l 40) (.c (.int .i64 (1))),none⟩,⟨.p 4,.mv (.l 41),none⟩]))
def b87:ICode:=.seq (.region [⟨.p 1,.box 167 4 (.p 0),none⟩,⟨.p 2,.mv (.c (.bool false)),none⟩]) (.seq (.seq (.region [⟨.l 5,.faddr 0 (.p 1),none⟩,⟨.l 6,.load 1 false (.l 5),none⟩,⟨.l 7,.len .str (.l 6),none⟩,⟨.l 8,.bin .gtr (.l 7) (.c (.int .i64 (40))),none⟩,⟨.l 9,.mv (.l 8),none⟩,⟨.l 10,.faddr 1 (.p 1),some ((.l 9),false)⟩,⟨.l 11,.load 1 false (.l 10),some ((.l 9),false)⟩,⟨.l 12,.len .sl (.l 11),some ((.l 9),false)⟩,⟨.l 13,.bin .gtr (.l 12) (.c (.int .i64 (30))),some ((.l 9),false)⟩,⟨.l 14,.pick (.l 9) (.c (.bool true)) (.l 13),none⟩,⟨.l 15,.mv (.l 14),none⟩,⟨.l 16,.faddr 2 (.p 1),some ((.l 15),false)⟩,⟨.l 17,.load 1 false (.l 16),some ((.l 15),false)⟩,⟨.l 18,.len .sl (.l 17),some ((.l 15),false)⟩,⟨.l 19,.bin .gtr (.l 18) (.c (.int .i64 (30))),some ((.l 15),false)⟩,⟨.l 20,.pick (.l 15) (.c (.bool true)) (.l 19),none⟩]) (.cond (.l 20) (.seq (.region [⟨.p 2,.mv (.c (.bool false)),none⟩]) (.ret)) (.skip))) (.seq (.seq (.region [⟨.p 3,.mv (.c (.int .i64 (0))),none⟩]) (.block 0 (.loop b87_0))) (.seq (.seq (.region [⟨.p 4,.mv (.c (.int .i64 (0))),none⟩]) (.block 2 (.loop b87_1))) (.seq (.region [⟨.p 2,.mv (.c (.bool true)),none⟩]) (.ret)))))
theorem ft87:FT 87=some ⟨49,[0,1,2,3,4],[.var (.p 2)],b87⟩:=by kernel_rfl
def b45_0:ICode:=.seq (.region [⟨.l 9,.bin .lss (.p 6) (.p 5),none⟩]) (.seq (.cond (.l 9) (.skip) (.exit 0)) (.seq (.block 1 (.seq (.region [⟨.l 10,.iaddr none 4 (.p 4) (.p 6),none⟩,⟨.l 11,.load 4 true (.l 10),none⟩,⟨.p 3,.alloc 167 [.str [],.nilsl,.nilsl,.bool false],none⟩,⟨.no,.store 4 (.p 3) (.l 11),none⟩]) (.seq (.draw [(⟨.l 12,.bslice 9 0 1 [.str []] [],none⟩,[]),(⟨.l 13,.faddr 1 (.p 3),none⟩,[0]),(⟨.l 14,.load 1 false (.l 13),none⟩,[0]),(⟨.l 15,.append 9 1 16 (.l 12) (.l 14),none⟩,[]),(⟨.l 16,.bslice 9 0 1 [.str []] [],none⟩,[0,1,2,3]),(⟨.l 17,.faddr 2 (.p 3),none⟩,[0,1,2,3,4]),(⟨.l 18,.load 1 false (.l 17),none⟩,[0,1,2,3,4]),(⟨.l 19,.append 9 1 16 (.l 16) (.l 18),none⟩,[]),(⟨.l 20,.faddr 1 (.p 3),none⟩,[4,7]),(⟨.no,.store 1 (.l 20) (.l 15),none⟩,[]),(⟨.l 21,.faddr 2 (.p 3),none⟩,[]),(⟨.no,.store 1 (.l 21) (.l 19),none⟩,[])]) (.region [⟨.l 22,.mv (.p 2),none⟩,⟨.l 23,.load 4 true (.p 3),none⟩,⟨.l 24,.bslice 124 1 4 [.str [],.nilsl,.nilsl,.bool false] [(0,4,(.l 23))],none⟩,⟨.l 25,.append 124 4 72 (.l 22) (.l 24),none⟩,⟨.p 2,.mv (.l 25),none⟩])))) (.region [⟨.l 26,.bin .add (.p 6) (.c (.int .i64 (1))),none⟩,⟨.p 6,.mv (.l 26),none⟩])))
def b45:ICode:=.seq (.region [⟨.p 1,.mv (.c (.nilsl)),none⟩]) (.seq (.region [⟨.p 2,.mv (.c (.nilsl)),none⟩]) (.seq (.seq (.region [⟨.p 4,.mv (.p 0),none⟩,⟨.p 5,.len .sl (.p 4),none⟩,⟨.p 6,.mv (.c (.int .i64 (0))),none⟩]) (.block 0 (.loop b45_0))) (.seq (.region [⟨.l 27,.mv (.p 2),none⟩,⟨.p 1,.mv (.l 27),none⟩]) (.ret))))
theorem ft45:FT 45=some ⟨28,[0,2,3,5,6,7,8],[.var (.p 1)],b45⟩:=by kernel_rfl
def b149_0:ICode:=.seq (.seq (.region [⟨.l 5,.mv (.p 3),none⟩,⟨.l 6,.mv (.p 0),none⟩,⟨.l 7,.len .str (.l 6),none⟩,⟨.l 8,.bin .lss (.l 5) (.l 7),none⟩]) (.cond (.l 8) (.skip) (.exit 0))) (.seq (.block 1 (.seq (.region [⟨.l 11,.mv (.p 0),none⟩,⟨.l 12,.mv (.p 3),none⟩,⟨.l 13,.index (.l 11) (.l 12),none⟩,⟨.l 14,.bin .eql (.l 13) (.c (.int .u8 (120))),none⟩]) (.cond (.l 14) (.region [⟨.l 15,.mv (.p 2),none⟩,⟨.l 16,.bin .add (.l 15) (.c (.int .i64 (1))),none⟩,⟨.p 2,.mv (.l 16),none⟩]) (.skip)))) (.region [⟨.l 9,.mv (.p 3),none⟩,⟨.l 10,.bin .add (.l 9) (.c (.int .i64 (1))),none⟩,⟨.p 3,.mv (.l 10),none⟩]))
def b149:ICode:=.seq (.region [⟨.p 1,.mv (.c (.int .i64 (0))),none⟩]) (.seq (.region [⟨.p 2,.mv (.c (.int .i64 (0))),none⟩]) (.seq (.seq (.region [⟨.p 3,.mv (.c (.int .i64 (0))),none⟩]) (.block 0 (.loop b149_0))) (.seq (.region [⟨.l 17,.mv (.p 2),none⟩,⟨.p 1,.mv (.l 17),none⟩]) (.ret))))
theorem ft149:FT 149=some ⟨18,[0,2,3,4],[.var (.p 1)],b149⟩:=by kernel_rfl
def b150:ICode:=.seq (.region [⟨.p 1,.mv (.c (.int .u8 (0))),none⟩]) (.seq (.seq (.region [⟨.l 3,.mv (.p 0),none⟩,⟨.l 4,.len .str (.l 3),none⟩,⟨.l 5,.bin .eql (.l 4) (.c (.int .i64 (0))),none⟩]) (.cond (.l 5) (.seq (.region [⟨.p 1,.mv (.c (.int .u8 (0))),none⟩]) (.ret)) (.skip))) (.seq (.region [⟨.l 6,.mv (.p 0),none⟩,⟨.l 7,.mv (.p 0),none⟩,⟨.l 8,.len .str (.l 7),none⟩,⟨.l 9,.bin .sub (.l 8) (.c (.int .i64 (1))),none⟩,⟨.l 10,.index (.l 6) (.l 9),none⟩,⟨.p 1,.mv (.l 10),none⟩]) (.ret)))
theorem ft150:FT 150=some ⟨11,[0,2],[.var (.p 1)],b150⟩:=by kernel_rfl
def b148_0:ICode:=.seq (.seq (.region [⟨.l 13,.mv (.p 2),none⟩,⟨.l 14,.mv (.p 0),none⟩,⟨.l 15,.len .str (.l 14),none⟩,⟨.l 16,.bin .lss (.l 13) (.l 15),none⟩]) (.cond (.l 16) (.skip) (.exit 0))) (.seq (.block 1 (.seq (.region [⟨.l 19,.mv (.p 2),none⟩,⟨.l 20,.bin .add (.l 19) (.c (.int .i64 (1))),none⟩,⟨.l 21,.mv (.p 0),none⟩,⟨.l 22,.len .str (.l 21),none⟩,⟨.l 23,.bin .eql (.l 20) (.l 22),none⟩,⟨.l 24,.mv (.l 23),none⟩,⟨.l 25,.mv (.p 0),some ((.l 24),true)⟩,⟨.l 26,.mv (.p 2),some ((.l 24),true)⟩,⟨.l 27,.index (.l 25) (.l 26),some ((.l 24),true)⟩,⟨.l 28,.bin .eql (.l 27) (.c (.int .u8 (111))),some ((.l 24),true)⟩,⟨.l 29,.mv (.l 28),some ((.l 24),true)⟩,⟨.l 30,.mv (.p 0),some ((.l 29),false)⟩,⟨.l 31,.mv (.p 2),some ((.l 29),false)⟩,⟨.l 32,.index (.l 30) (.l 31),some ((.l 29),false)⟩,⟨.l 33,.bin .eql (.l 32) (.c (.int .u8 (45))),some ((.l 29),false)⟩,⟨.l 34,.pick (.l 29) (.c (.bool true)) (.l 33),some ((.l 24),true)⟩,⟨.l 35,.pick (.l 24) (.l 34) (.c (.bool false)),none⟩,⟨.p 3,.mv (.l 35),none⟩]) (.seq (.region [⟨.l 36,.mv (.p 0),none⟩,⟨.l 37,.mv (.p 2),none⟩,⟨.l 38,.index (.l 36) (.l 37),none⟩,⟨.l 39,.bin .neq (.l 38) (.c (.int .u8 (120))),none⟩,⟨.l 40,.mv (.l 39),none⟩,⟨.l 41,.mv (.p 3),some ((.l 40),true)⟩,⟨.l 42,.un .not (.l 41),some ((.l 40),true)⟩,⟨.l 43,.pick (.l 40) (.l 42) (.c (.bool false)),none⟩]) (.cond (.l 43) (.seq (.region [⟨.p 1,.mv (.c (.bool false)),none⟩]) (.ret)) (.skip))))) (.region [⟨.l 17,.mv (.p 2),none⟩,⟨.l 18,.bin .add (.l 17) (.c (.int .i64 (1))),none⟩,⟨.p 2,.mv (.l 18),none⟩]))
def b148:ICode:=.seq (.region [⟨.p 1,.mv (.c (.bool false)),none⟩]) (.seq (.seq (.region [⟨.l 5,.mv (.p 0),none⟩,⟨.l 6,.len .str (.l 5),none⟩,⟨.l 7,.bin .lss (.l 6) (.c (.int .i64 (1))),none⟩,⟨.l 8,.mv (.l 7),none⟩,⟨.l 9,.mv (.p 0),some ((.l 8),false)⟩,⟨.l 10,.len .str (.l 9),some ((.l 8),false)⟩,⟨.l 11,.bin .gtr (.l 10) (.c (.int .i64 (3))),some ((.l 8),false)⟩,⟨.l 12,.pick (.l 8) (.c (.bool true)) (.l 11),none⟩]) (.cond (.l 12) (.seq (.region [⟨.p 1,.mv (.c (.bool false)),none⟩]) (.ret)) (.skip))) (.seq (.seq (.region [⟨.p 2,.mv (.c (.int .i64 (0))),none⟩]) (.block 0 (.loop b148_0))) (.seq (.region [⟨.p 1,.mv (.c (.bool true)),none⟩]) (.ret))))
theorem ft148:FT 148=some ⟨44,[0,2,3,4],[.var (.p 1)],b148⟩:=by kernel_rfl
def b96_0:ICode:=.seq (.seq (.region [⟨.l 22,.mv (.p 3),none⟩,⟨.l 23,.faddr 1 (.p 1),none⟩,⟨.l 24,.load 1 false (.l 23),none⟩,⟨.l 25,.len .sl (.l 24),none⟩,⟨.l 26,.bin .lss (.l 22) (.l 25),none⟩]) (.cond (.l 26) (.skip) (.exit 0))) (.seq (.block 1 (.seq (.region [⟨.l 29,.faddr 1 (.p 1),none⟩,⟨.l 30,.load 1 false (.l 29),none⟩,⟨.l 31,.mv (.p 3),none⟩,⟨.l 32,.iaddr none 1 (.l 30) (.l 31),none⟩,⟨.l 33,.load 1 false (.l 32),none⟩,⟨.l 34,.call (.c (.fn (.func 148) [] [])) [(.l 33)],none⟩,⟨.l 35,.un .not (.l 34),none⟩]) (.cond (.l 35) (.seq (.region [⟨.p 2,.mv (.c (.int .i64 (1))),none⟩]) (.ret)) (.skip)))) (.region [⟨.l 27,.mv (.p 3),none⟩,⟨.l 28,.bin .add (.l 27) (.c (.int .i64 (1))),none⟩,⟨.p 3,.mv (.l 28),none⟩]))
def b96_1:ICode:=.seq (.seq (.region [⟨.l 36,.mv (.p 4),none⟩,⟨.l 37,.faddr 2 (.p 1),none⟩,⟨.l 38,.load 1 false (.l 37),none⟩,⟨.l 39,.len .sl (.l 38),none⟩,⟨.l 40,.bin .lss (.l 36) (.l 39),none⟩]) (.cond (.l 40) (.skip) (.exit 2))) (.seq (.block 3 (.seq (.region [⟨.l 43,.faddr 2 (.p 1),none⟩,⟨.l 44,.load 1 false (.l 43),none⟩,⟨.l 45,.mv (.p 4),none⟩,⟨.l 46,.iaddr none 1 (.l 44) (.l 45),none⟩,⟨.l 47,.load 1 false (.l 46),none⟩,⟨.l 48,.bin .neq (.l 47) (.c (.str [111])),none⟩,⟨.l 49,.mv (.l 48),none⟩,⟨.l 50,.faddr 2 (.p 1),some ((.l 49),true)⟩,⟨.l 51,.load 1 false (.l 50),some ((.l 49),true)⟩,⟨.l 52,.mv (.p 4),some ((.l 49),true)⟩,⟨.l 53,.iaddr none 1 (.l 51) (.l 52),some ((.l 49),true)⟩,⟨.l 54,.load 1 false (.l 53),some ((.l 49),true)⟩,⟨.l 55,.bin .neq (.l 54) (.c (.str [120])),some ((.l 49),true)⟩,⟨.l 56,.pick (.l 49) (.l 55) (.c (.bool false)),none⟩]) (.cond (.l 56) (.seq (.region [⟨.p 2,.mv (.c (.int .i64 (1))),none⟩]) (.ret)) (.skip)))) (.region [⟨.l 41,.mv (.p 4),none⟩,⟨.l 42,.bin .add (.l 41) (.c (.int .i64 (1))),none⟩,⟨.p 4,.mv (.l 42),none⟩]))
def b96_2:ICode:=.seq (.seq (.region [⟨.l 57,.mv (.p 6),none⟩,⟨.l 58,.faddr 1 (.p 1),none⟩,⟨.l 59,.load 1 false (.l 58),none⟩,⟨.l 60,.len .sl (.l 59),none⟩,⟨.l 61,.bin .lss (.l 57) (.l 60),none⟩]) (.cond (.l 61) (.skip) (.exit 4))) (.seq (.block 5 (.seq (.region [⟨.l 64,.faddr 1 (.p 1),none⟩,⟨.l 65,.load 1 false (.l 64),none⟩,⟨.l 66,.mv (.p 6),none⟩,⟨.l 67,.iaddr none 1 (.l 65) (.l 66),none⟩,⟨.l 68,.load 1 false (.l 67),none⟩,⟨.p 7,.mv (.l 68),none⟩]) (.seq (.region [⟨.l 69,.mv (.p 5),none⟩,⟨.l 70,.mv (.p 7),none⟩,⟨.l 71,.call (.c (.fn (.func 149) [] [])) [(.l 70)],none⟩,⟨.l 72,.bin .add (.l 69) (.l 71),none⟩,⟨.p 5,.mv (.l 72),none⟩]) (.seq (.seq (.region [⟨.l 73,.mv (.p 5),none⟩,⟨.l 74,.bin .gtr (.l 73) (.c (.int .i64 (3))),none⟩,⟨.l 75,.mv (.l 74),none⟩,⟨.l 76,.mv (.p 5),some ((.l 75),false)⟩,⟨.l 77,.bin .eql (.l 76) (.c (.int .i64 (3))),some ((.l 75),false)⟩,⟨.l 78,.mv (.l 77),some ((.l 75),false)⟩,⟨.l 79,.mv (.p 7),some ((.l 78),true)⟩,⟨.l 80,.call (.c (.fn (.func 150) [] [])) [(.l 79)],some ((.l 78),true)⟩,⟨.l 81,.bin .neq (.l 80) (.c (.int .u8 (120))),some ((.l 78),true)⟩,⟨.l 82,.pick (.l 78) (.l 81) (.c (.bool false)),some ((.l 75),false)⟩,⟨.l 83,.pick (.l 75) (.c (.bool true)) (.l 82),none⟩,⟨.l 84,.mv (.l 83),none⟩,⟨.l 85,.mv (.p 7),some ((.l 84),false)⟩,⟨.l 86,.call (.c (.fn (.func 150) [] [])) [(.l 85)],some ((.l 84),false)⟩,⟨.l 87,.bin .eql (.l 86) (.c (.int .u8 (120))),some ((.l 84),false)⟩,⟨.l 88,.mv (.l 87),some ((.l 84),false)⟩,⟨.l 89,.mv (.p 6),some ((.l 88),true)⟩,⟨.l 90,.bin .add (.l 89) (.c (.int .i64 (1))),some ((.l 88),true)⟩,⟨.l 91,.faddr 1 (.p 1),some ((.l 88),true)⟩,⟨.l 92,.load 1 false (.l 91),some ((.l 88),true)⟩,⟨.l 93,.len .sl (.l 92),some ((.l 88),true)⟩,⟨.l 94,.bin .lss (.l 90) (.l 93),some ((.l 88),true)⟩,⟨.l 95,.pick (.l 88) (.l 94) (.c (.bool false)),some ((.l 84),false)⟩,⟨.l 96,.pick (.l 84) (.c (.bool true)) (.l 95),none⟩]) (.cond (.l 96) (.seq (.region [⟨.p 2,.mv (.c (.int .i64 (19))),none⟩]) (.ret)) (.skip))) (.seq (.region [⟨.l 97,.mv (.p 7),none⟩,⟨.l 98,.call (.c (.fn (.func 150) [] [])) [(.l 97)],none⟩,⟨.l 99,.bin .eql (.l 98) (.c (.int .u8 (111))),none⟩]) (.cond (.l 99) (.region [⟨.p 5,.mv (.c (.int .i64 (0))),none⟩]) (.skip))))))) (.region [⟨.l 62,.mv (.p 6),none⟩,⟨.l 63,.bin .add (.l 62) (.c (.int .i64 (1))),none⟩,⟨.p 6,.mv (.l 63),none⟩]))
def b96:ICode:=.seq (.region [⟨.p 1,.box 167 4 (.p 0),none⟩,⟨.p 2,.mv (.c (.int .i64 (0))),none⟩]) (.seq (.seq (.region [⟨.l 8,.faddr 0 (.p 1),none⟩,⟨.l 9,.load 1 false (.l 8),none⟩,⟨.l 10,.call (.c (.fn (.func 68) [] [])) [(.l 9)],none⟩,⟨.l 11,.un .not (.l 10),none⟩]) (.cond (.l 11) (.seq (.region [⟨.p 2,.mv (.c (.int .i64 (8))),none⟩]) (.ret)) (.skip))) (.seq (.seq (.region [⟨.l 12,.faddr 1 (.p 1),none⟩,⟨.l 13,.load 1 false (.l 12),none⟩,⟨.l 14,.len .sl (.l 13),none⟩,⟨.l 15,.bin .gtr (.l 14) (.c (.int .i64 (24))),none⟩,⟨.l 16,.mv (.l 15),none⟩,⟨.l 17,.faddr 2 (.p 1),some ((.l 16),false)⟩,⟨.l 18,.load 1 false (.l 17),some ((.l 16),false)⟩,⟨.l 19,.len .sl (.l 18),some ((.l 16),false)⟩,⟨.l 20,.bin .gtr (.l 19) (.c (.int .i64 (24))),some ((.l 16),false)⟩,⟨.l 21,.pick (.l 16) (.c (.bool true)) (.l 20),none⟩]) (.cond (.l 21) (.seq (.region [⟨.p 2,.mv (.c (.int .i64 (5))),none⟩]) (.ret)) (.skip))) (.seq (.seq (.region [⟨.p 3,.mv (.c (.int .i64 (0))),none⟩]) (.block 0 (.loop b96_0))) (.seq (.seq (.region [⟨.p 4,.mv (.c (.int .i64 (0))),none⟩]) (.block 2 (.loop b96_1))) (.seq (.region [⟨.p 5,.mv (.c (.int .i64 (0))),none⟩]) (.seq (.seq (.region [⟨.p 6,.mv (.c (.int .i64 (0))),none⟩]) (.block 4 (.loop b96_2))) (.seq (.region [⟨.p 2,.mv (.c (.int .i64 (0))),none⟩]) (.ret))))))))
theorem ft96:FT 96=some ⟨100,[0,1,2,3,4,5,6,7],[.var (.p 2)],b96⟩:=by kernel_rfl
def b47_0:ICode:=.seq (.seq (.region [⟨.l 13,.mv (.p 4),none⟩,⟨.l 14,.mv (.p 1),none⟩,⟨.l 15,.len .sl (.l 14),none⟩,⟨.l 16,.bin .lss (.l 13) (.l 15),none⟩]) (.cond (.l 16) (.skip) (.exit 0))) (.seq (.block 1 (.seq (.seq (.draw [(⟨.l 19,.mv (.p 1),none⟩,[]),(⟨.l 20,.mv (.p 4),none⟩,[0]),(⟨.l 21,.iaddr none 4 (.l 19) (.l 20),none⟩,[]),(⟨.l 22,.faddr 0 (.l 21),none⟩,[]),(⟨.l 23,.load 1 false (.l 22),none⟩,[]),(⟨.l 24,.faddr 0 (.p 2),none⟩,[0,1,2,3,4]),(⟨.l 25,.load 1 false (.l 24),none⟩,[0,1,2,3,4]),(⟨.l 26,.mv (.p 4),none⟩,[0,1,2,3,4,5,6]),(⟨.l 27,.iaddr none 1 (.l 25) (.l 26),none⟩,[0,1,2,3,4]),(⟨.l 28,.load 1 false (.l 27),none⟩,[0,1,2,3,4]),(⟨.l 29,.bin .neq (.l 23) (.l 28),none⟩,[])]) (.cond (.l 29) (.seq (.region [⟨.p 3,.mv (.c (.int .i64 (10))),none⟩]) (.ret)) (.skip))) (.seq (.region [⟨.l 30,.mv (.p 1),none⟩,⟨.l 31,.mv (.p 4),none⟩,⟨.l 32,.iaddr none 4 (.l 30) (.l 31),none⟩,⟨.l 33,.load 4 true (.l 32),none⟩,⟨.l 34,.call (.c (.fn (.func 96) [] [])) [(.l 33)],none⟩,⟨.p 5,.mv (.l 34),none⟩]) (.seq (.seq (.draw [(⟨.l 35,.mv (.p 5),none⟩,[]),(⟨.l 36,.bin .eql (.l 35) (.c (.int .i64 (0))),none⟩,[]),(⟨.l 37,.mv (.l 36),none⟩,[]),(⟨.l 38,.mv (.p 1),some ((.l 37),true)⟩,[]),(⟨.l 39,.mv (.p 4),some ((.l 37),true)⟩,[3]),(⟨.l 40,.iaddr none 4 (.l 38) (.l 39),some ((.l 37),true)⟩,[]),(⟨.l 41,.faddr 1 (.l 40),some ((.l 37),true)⟩,[]),(⟨.l 42,.load 1 false (.l 41),some ((.l 37),true)⟩,[]),(⟨.l 43,.len .sl (.l 42),some ((.l 37),true)⟩,[]),(⟨.l 44,.faddr 1 (.p 2),some ((.l 37),true)⟩,[3,4,5,6,7,8]),(⟨.l 45,.load 1 false (.l 44),some ((.l 37),true)⟩,[3,4,5,6,7,8]),(⟨.l 46,.len .sl (.l 45),some ((.l 37),true)⟩,[3,4,5,6,7,8]),(⟨.l 47,.bin .gtr (.l 43) (.l 46),some ((.l 37),true)⟩,[]),(⟨.l 48,.pick (.l 37) (.l 47) (.c (.bool false)),none⟩,[])]) (.cond (.l 48) (.region [⟨.p 5,.mv (.c (.int .i64 (5))),none⟩]) (.skip))) (.seq (.region [⟨.l 49,.mv (.p 5),none⟩,⟨.l 50,.bin .neq (.l 49) (.c (.int .i64 (0))),none⟩]) (.cond (.l 50) (.seq (.region [⟨.l 51,.mv (.p 5),none⟩,⟨.p 3,.mv (.l 51),none⟩]) (.ret)) (.skip))))))) (.region [⟨.l 17,.mv (.p 4),none⟩,⟨.l 18,.bin .add (.l 17) (.c (.int .i64 (1))),none⟩,⟨.p 4,.mv (.l 18),none⟩]))
def b47:ICode:=.seq (.region [⟨.p 2,.box 27 3 (.p 0),none⟩,⟨.p 3,.mv (.c (.int .i64 (0))),none⟩]) (.seq (.seq (.region [⟨.l 7,.mv (.p 1),none⟩,⟨.l 8,.len .sl (.l 7),none⟩,⟨.l 9,.faddr 0 (.p 2),none⟩,⟨.l 10,.load 1 false (.l 9),none⟩,⟨.l 11,.len .sl (.l 10),none⟩,⟨.l 12,.bin .neq (.l 8) (.l 11),none⟩]) (.cond (.l 12) (.seq (.region [⟨.p 3,.mv (.c (.int .i64 (2))),none⟩]) (.ret)) (.skip))) (.seq (.seq (.region [⟨.p 4,.mv (.c (.int .i64 (0))),none⟩]) (.block 0 (.loop b47_0))) (.seq (.region [⟨.p 3,.mv (.c (.int .i64 (0))),none⟩]) (.ret))))
theorem ft47:FT 47=some ⟨52,[0,1,2,4,5,6],[.var (.p 3)],b47⟩:=by kernel_rfl
def b99_0:ICode:=.seq (.seq (.region [⟨.l 5,.mv (.p 4),none⟩,⟨.l 6,.faddr 1 (.p 1),none⟩,⟨.l 7,.load 1 false (.l 6),none⟩,⟨.l 8,.len .sl (.l 7),none⟩,⟨.l 9,.bin .lss (.l 5) (.l 8),none⟩]) (.cond (.l 9) (.skip) (.exit 0))) (.seq (.block 1 (.seq (.region [⟨.l 12,.faddr 1 (.p 1),none⟩,⟨.l 13,.load 1 false (.l 12),none⟩,⟨.l 14,.mv (.p 4),none⟩,⟨.l 15,.iaddr none 1 (.l 13) (.l 14),none⟩,⟨.l 16,.load 1 false (.l 15),none⟩,⟨.l 17,.call (.c (.fn (.func 150) [] [])) [(.l 16)],none⟩,⟨.l 18,.bin .eql (.l 17) (.c (.int .u8 (111))),none⟩]) (.cond (.l 18) (.region [⟨.l 19,.mv (.p 4),none⟩,⟨.p 3,.mv (.l 19),none⟩]) (.skip)))) (.region [⟨.l 10,.mv (.p 4),none⟩,⟨.l 11,.bin .add (.l 10) (.c (.int .i64 (1))),none⟩,⟨.p 4,.mv (.l 11),none⟩]))
def b99:ICode:=.seq (.region [⟨.p 1,.box 167 4 (.p 0),none⟩,⟨.p 2,.mv (.c (.int .i64 (0))),none⟩]) (.seq (.region [⟨.p 3,.mv (.c (.int .i64 (-1))),none⟩]) (.seq (.seq (.region [⟨.p 4,.mv (.c (.int .i64 (0))),none⟩]) (.block 0 (.loop b99_0))) (.seq (.region [⟨.l 20,.mv (.p 3),none⟩,⟨.p 2,.mv (.l 20),none⟩]) (.ret))))
theorem ft99:FT 99=some ⟨21,[0,1,2,3,4],[.var (.p 2)],b99⟩:=by kernel_rfl
def b158_0:ICode:=.seq (.seq (.region [⟨.l 5,.mv (.p 4),none⟩,⟨.l 6,.load 4 true (.p 1),none⟩,⟨.l 7,.call (.c (.fn (.func 99) [] [])) [(.l 6)],none⟩,⟨.l 8,.bin .leq (.l 5) (.l 7),none⟩]) (.cond (.l 8) (.skip) (.exit 0))) (.seq (.block 1 (.region [⟨.l 11,.mv (.p 3),none⟩,⟨.l 12,.faddr 1 (.p 1),none⟩,⟨.l 13,.load 1 false (.l 12),none⟩,⟨.l 14,.mv (.p 4),none⟩,⟨.l 15,.iaddr none 1 (.l 13) (.l 14),none⟩,⟨.l 16,.load 1 false (.l 15),none⟩,⟨.l 17,.call (.c (.fn (.func 149) [] [])) [(.l 16)],none⟩,⟨.l 18,.bin .add (.l 11) (.l 17),none⟩,⟨.p 3,.mv (.l 18),none⟩])) (.region [⟨.l 9,.mv (.p 4),none⟩,⟨.l 10,.bin .add (.l 9) (.c (.int .i64 (1))),none⟩,⟨.p 4,.mv (.l 10),none⟩]))
def b158:ICode:=.seq (.region [⟨.p 1,.box 167 4 (.p 0),none⟩,⟨.p 2,.mv (.c (.int .i64 (0))),none⟩]) (.seq (.region [⟨.p 3,.mv (.c (.int .i64 (0))),none⟩]) (.seq (.seq (.region [⟨.p 4,.mv (.c (.int .i64 (0))),none⟩]) (.block 0 (.loop b158_0))) (.seq (.region [⟨.l 19,.mv (.p 3),none⟩,⟨.p 2,.mv (.l 19),none⟩]) (.ret))))
theorem ft158:FT 158=some ⟨20,[0,1,2,3,4],[.var (.p 2)],b158⟩:=by kernel_rfl
def b157:ICode:=.seq (.region [⟨.p 2,.mv (.c (.int .i64 (0))),none⟩]) (.seq (.seq (.region [⟨.l 5,.mv (.p 0),none⟩,⟨.l 6,.mv (.p 1),none⟩,⟨.l 7,.bin .gtr (.l 5) (.l 6),none⟩]) (.cond (.l 7) (.seq (.region [⟨.p 2,.mv (.c (.int .i64 (1))),none⟩]) (.ret)) (.skip))) (.seq (.seq (.region [⟨.l 8,.mv (.p 0),none⟩,⟨.l 9,.mv (.p 1),none⟩,⟨.l 10,.bin .lss (.l 8) (.l 9),none⟩]) (.cond (.l 10) (.seq (.region [⟨.p 2,.mv (.c (.int .i64 (-1))),none⟩]) (.ret)) (.skip))) (.seq (.region [⟨.p 2,.mv (.c (.int .i64 (0))),none⟩]) (.ret))))
theorem ft157:FT 157=some ⟨11,[0,1,4],[.var (.p 2)],b157⟩:=by kernel_rfl
def b100:ICode:=.seq (.region [⟨.p 2,.box 167 4 (.p 0),none⟩,⟨.p 3,.box 167 4 (.p 1),none⟩,⟨.p 4,.mv (.c (.int .i64 (0))),none⟩]) (.seq (.draw [(⟨.l 7,.load 4 true (.p 2),none⟩,[]),(⟨.l 8,.call (.c (.fn (.func 99) [] [])) [(.l 7)],none⟩,[]),(⟨.l 9,.load 4 true (.p 3),none⟩,[0,1]),(⟨.l 10,.call (.c (.fn (.func 99) [] [])) [(.l 9)],none⟩,[]),(⟨.p 5,.mv (.l 8),none⟩,[]),(⟨.p 6,.mv (.l 10),none⟩,[])]) (.seq (.seq (.region [⟨.l 11,.mv (.p 5),none⟩,⟨.l 12,.mv (.p 6),none⟩,⟨.l 13,.bin .neq (.l 11) (.l 12),none⟩]) (.cond (.l 13) (.seq (.region [⟨.l 14,.mv (.p 5),none⟩,⟨.l 15,.mv (.p 6),none⟩,⟨.l 16,.call (.c (.fn (.func 157) [] [])) [(.l 14),(.l 15)],none⟩,⟨.p 4,.mv (.l 16),none⟩]) (.ret)) (.skip))) (.seq (.seq (.draw [(⟨.l 17,.faddr 1 (.p 2),none⟩,[]),(⟨.l 18,.load 1 false (.l 17),none⟩,[]),(⟨.l 19,.mv (.p 5),none⟩,[0,1]),(⟨.l 20,.iaddr none 1 (.l 18) (.l 19),none⟩,[]),(⟨.l 21,.load 1 false (.l 20),none⟩,[]),(⟨.l 22,.call (.c (.fn (.func 149) [] [])) [(.l 21)],none⟩,[]),(⟨.l 23,.faddr 1 (.p 3),none⟩,[0,1,2,3,4,5]),(⟨.l 24,.load 1 false (.l 23),none⟩,[0,1,2,3,4,5]),(⟨.l 25,.mv (.p 6),none⟩,[0,1,2,3,4,5,6,7]),(⟨.l 26,.iaddr none 1 (.l 24) (.l 25),none⟩,[0,1,2,3,4,5]),(⟨.l 27,.load 1 false (.l 26),none⟩,[0,1,2,3,4,5]),(⟨.l 28,.call (.c (.fn (.func 149) [] [])) [(.l 27)],none⟩,[]),(⟨.l 29,.bin .neq (.l 22) (.l 28),none⟩,[])]) (.cond (.l 29) (.seq (.draw [(⟨.l 30,.faddr 1 (.p 3),none⟩,[]),(⟨.l 31,.load 1 false (.l 30),none⟩,[]),(⟨.l 32,.mv (.p 6),none⟩,[0,1]),(⟨.l 33,.iaddr none 1 (.l 31) (.l 32),none⟩,[]),(⟨.l 34,.load 1 false (.l 33),none⟩,[]),(⟨.l 35,.call (.c (.fn (.func 149) [] [])) [(.l 34)],none⟩,[]),(⟨.l 36,.faddr 1 (.p 2),none⟩,[0,1,2,3,4,5]),(⟨.l 37,.load 1 false (.l 36),none⟩,[0,1,2,3,4,5]),(⟨.l 38,.mv (.p 5),none⟩,[0,1,2,3,4,5,6,7]),(⟨.l 39,.iaddr none 1 (.l 37) (.l 38),none⟩,[0,1,2,3,4,5]),(⟨.l 40,.load 1 false (.l 39),none⟩,[0,1,2,3,4,5]),(⟨.l 41,.call (.c (.fn (.func 149) [] [])) [(.l 40)],none⟩,[]),(⟨.l 42,.call (.c (.fn (.func 157) [] [])) [(.l 35),(.l 41)],none⟩,[]),(⟨.p 4,.mv (.l 42),none⟩,[])]) (.ret)) (.skip))) (.seq (.draw [(⟨.l 43,.load 4 true (.p 3),none⟩,[]),(⟨.l 44,.call (.c (.fn (.func 158) [] [])) [(.l 43)],none⟩,[]),(⟨.l 45,.load 4 true (.p 2),none⟩,[0,1]),(⟨.l 46,.call (.c (.fn (.func 158) [] [])) [(.l 45)],none⟩,[]),(⟨.l 47,.call (.c (.fn (.func 157) [] [])) [(.l 44),(.l 46)],none⟩,[]),(⟨.p 4,.mv (.l 47),none⟩,[])]) (.ret)))))
theorem ft100:FT 100=some ⟨48,[0,1,2,3,4,5,6],[.var (.p 4)],b100⟩:=by kernel_rfl
def b98_0:ICode:=.seq (.seq (.region [⟨.l 19,.mv (.p 5),none⟩,⟨.l 20,.mv (.p 0),none⟩,⟨.l 21,.len .sl (.l 20),none⟩,⟨.l 22,.bin .lss (.l 19) (.l 21),none⟩]) (.cond (.l 22) (.skip) (.exit 2))) (.seq (.block 3 (.seq (.draw [(⟨.l 25,.mv (.p 4),none⟩,[]),(⟨.l 26,.mv (.l 25),none⟩,[]),(⟨.l 27,.mv (.p 0),some ((.l 26),true)⟩,[]),(⟨.l 28,.mv (.p 5),some ((.l 26),true)⟩,[2]),(⟨.l 29,.iaddr none 4 (.l 27) (.l 28),some ((.l 26),true)⟩,[]),(⟨.l 30,.load 4 true (.l 29),some ((.l 26),true)⟩,[]),(⟨.l 31,.call (.c (.fn (.func 99) [] [])) [(.l 30)],some ((.l 26),true)⟩,[]),(⟨.l 32,.bin .geq (.l 31) (.c (.int .i64 (0))),some ((.l 26),true)⟩,[]),(⟨.l 33,.pick (.l 26) (.l 32) (.c (.bool false)),none⟩,[]),(⟨.l 34,.mv (.l 33),none⟩,[]),(⟨.l 35,.mv (.p 0),some ((.l 34),true)⟩,[]),(⟨.l 36,.mv (.p 5),some ((.l 34),true)⟩,[10]),(⟨.l 37,.iaddr none 4 (.l 35) (.l 36),some ((.l 34),true)⟩,[]),(⟨.l 38,.load 4 true (.l 37),some ((.l 34),true)⟩,[]),(⟨.l 39,.mv (.p 0),some ((.l 34),true)⟩,[10,11,12,13]),(⟨.l 40,.mv (.p 3),some ((.l 34),true)⟩,[10,11,12,13,14]),(⟨.l 41,.iaddr none 4 (.l 39) (.l 40),some ((.l 34),true)⟩,[10,11,12,13]),(⟨.l 42,.load 4 true (.l 41),some ((.l 34),true)⟩,[10,11,12,13]),(⟨.l 43,.call (.c (.fn (.func 100) [] [])) [(.l 38),(.l 42)],some ((.l 34),true)⟩,[]),(⟨.l 44,.bin .gtr (.l 43) (.c (.int .i64 (0))),some ((.l 34),true)⟩,[]),(⟨.l 45,.pick (.l 34) (.l 44) (.c (.bool false)),none⟩,[])]) (.cond (.l 45) (.region [⟨.p 4,.mv (.c (.bool false)),none⟩]) (.skip)))) (.region [⟨.l 23,.mv (.p 5),none⟩,⟨.l 24,.bin .add (.l 23) (.c (.int .i64 (1))),none⟩,⟨.p 5,.mv (.l 24),none⟩]))
def b98_1:ICode:=.seq (.seq (.region [⟨.l 7,.mv (.p 3),none⟩,⟨.l 8,.mv (.p 0),none⟩,⟨.l 9,.len .sl (.l 8),none⟩,⟨.l 10,.bin .lss (.l 7) (.l 9),none⟩]) (.cond (.l 10) (.skip) (.exit 0))) (.seq (.block 1 (.seq (.region [⟨.l 13,.mv (.p 0),none⟩,⟨.l 14,.mv (.p 3),none⟩,⟨.l 15,.iaddr none 4 (.l 13) (.l 14),none⟩,⟨.l 16,.load 4 true (.l 15),none⟩,⟨.l 17,.call (.c (.fn (.func 99) [] [])) [(.l 16)],none⟩,⟨.l 18,.bin .geq (.l 17) (.c (.int .i64 (0))),none⟩,⟨.p 4,.mv (.l 18),none⟩]) (.seq (.seq (.region [⟨.p 5,.mv (.c (.int .i64 (0))),none⟩]) (.block 2 (.loop b98_0))) (.seq (.region [⟨.l 46,.mv (.p 4),none⟩]) (.cond (.l 46) (.region [⟨.l 47,.mv (.p 2),none⟩,⟨.l 48,.mv (.p 3),none⟩,⟨.l 49,.bslice 3 1 1 [.int .i64 (0)] [(0,1,(.l 48))],none⟩,⟨.l 50,.append 3 1 8 (.l 47) (.l 49),none⟩,⟨.p 2,.mv (.l 50),none⟩]) (.skip)))))) (.region [⟨.l 11,.mv (.p 3),none⟩,⟨.l 12,.bin .add (.l 11) (.c (.int .i64 (1))),none⟩,⟨.p 3,.mv (.l 12),none⟩]))
def b98:ICode:=.seq (.region [⟨.p 1,.mv (.c (.nilsl)),none⟩]) (.seq (.region [⟨.p 2,.mv (.c (.nilsl)),none⟩]) (.seq (.seq (.region [⟨.p 3,.mv (.c (.int .i64 (0))),none⟩]) (.block 0 (.loop b98_1))) (.seq (.region [⟨.l 51,.mv (.p 2),none⟩,⟨.p 1,.mv (.l 51),none⟩]) (.ret))))
theorem ft98:FT 98=some ⟨52,[0,2,3,4,5,6],[.var (.p 1)],b98⟩:=by kernel_rfl
def b101_0:ICode:=.seq (.seq (.region [⟨.l 6,.mv (.p 3),none⟩,⟨.l 7,.mv (.p 0),none⟩,⟨.l 8,.len .sl (.l 7),none⟩,⟨.l 9,.bin .lss (.l 6) (.l 8),none⟩]) (.cond (.l 9) (.skip) (.exit 0))) (.seq (.block 1 (.seq (.region [⟨.l 12,.mv (.p 0),none⟩,⟨.l 13,.mv (.p 3),none⟩,⟨.l 14,.iaddr none 1 (.l 12) (.l 13),none⟩,⟨.l 15,.load 1 false (.l 14),none⟩,⟨.l 16,.mv (.p 1),none⟩,⟨.l 17,.bin .eql (.l 15) (.l 16),none⟩]) (.cond (.l 17) (.seq (.region [⟨.p 2,.mv (.c (.bool true)),none⟩]) (.ret)) (.skip)))) (.region [⟨.l 10,.mv (.p 3),none⟩,⟨.l 11,.bin .add (.l 10) (.c (.int .i64 (1))),none⟩,⟨.p 3,.mv (.l 11),none⟩]))
def b101:ICode:=.seq (.region [⟨.p 2,.mv (.c (.bool false)),none⟩]) (.seq (.seq (.region [⟨.p 3,.mv (.c (.int .i64 (0))),none⟩]) (.block 0 (.loop b101_0))) (.seq (.region [⟨.p 2,.mv (.c (.bool false)),none⟩]) (.ret)))
theorem ft101:FT 101=some ⟨18,[0,1,4,5],[.var (.p 2)],b101⟩:=by kernel_rfl
def b159:ICode:=.seq (.region [⟨.p 2,.box 167 4 (.p 0),none⟩,⟨.p 3,.mv (.c (.int .i64 (0))),none⟩]) (.seq (.seq (.region [⟨.l 5,.mv (.p 1),none⟩,⟨.l 6,.faddr 2 (.p 2),none⟩,⟨.l 7,.load 1 false (.l 6),none⟩,⟨.l 8,.len .sl (.l 7),none⟩,⟨.l 9,.bin .geq (.l 5) (.l 8),none⟩]) (.cond (.l 9) (.seq (.region [⟨.p 3,.mv (.c (.int .i64 (0))),none⟩]) (.ret)) (.skip))) (.seq (.seq (.region [⟨.l 10,.faddr 2 (.p 2),none⟩,⟨.l 11,.load 1 false (.l 10),none⟩,⟨.l 12,.mv (.p 1),none⟩,⟨.l 13,.iaddr none 1 (.l 11) (.l 12),none⟩,⟨.l 14,.load 1 false (.l 13),none⟩,⟨.l 15,.bin .eql (.l 14) (.c (.str [111])),none⟩]) (.cond (.l 15) (.seq (.region [⟨.p 3,.mv (.c (.int .i64 (2))),none⟩]) (.ret)) (.skip))) (.seq (.region [⟨.p 3,.mv (.c (.int .i64 (1))),none⟩]) (.ret))))
theorem ft159:FT 159=some ⟨16,[0,1,2,4],[.var (.p 3)],b159⟩:=by kernel_rfl
def b102_0:ICode:=.seq (.seq (.region [⟨.l 8,.mv (.p 5),none⟩,⟨.l 9,.faddr 2 (.p 2),none⟩,⟨.l 10,.load 1 false (.l 9),none⟩,⟨.l 11,.len .sl (.l 10),none⟩,⟨.l 12,.bin .lss (.l 8) (.l 11),none⟩,⟨.l 13,.mv (.l 12),none⟩,⟨.l 14,.mv (.p 5),some ((.l 13),false)⟩,⟨.l 15,.faddr 2 (.p 3),some ((.l 13),false)⟩,⟨.l 16,.load 1 false (.l 15),some ((.l 13),false)⟩,⟨.l 17,.len .sl (.l 16),some ((.l 13),false)⟩,⟨.l 18,.bin .lss (.l 14) (.l 17),some ((.l 13),false)⟩,⟨.l 19,.pick (.l 13) (.c (.bool true)) (.l 18),none⟩]) (.cond (.l 19) (.skip) (.exit 0))) (.seq (.block 1 (.seq (.draw [(⟨.l 22,.load 4 true (.p 2),none⟩,[]),(⟨.l 23,.mv (.p 5),none⟩,[0]),(⟨.l 24,.call (.c (.fn (.func 159) [] [])) [(.l 22),(.l 23)],none⟩,[]),(⟨.l 25,.load 4 true (.p 3),none⟩,[0,1,2]),(⟨.l 26,.mv (.p 5),none⟩,[0,1,2,3]),(⟨.l 27,.call (.c (.fn (.func 159) [] [])) [(.l 25),(.l 26)],none⟩,[]),(⟨.p 6,.mv (.l 24),none⟩,[]),(⟨.p 7,.mv (.l 27),none⟩,[])]) (.seq (.region [⟨.l 28,.mv (.p 6),none⟩,⟨.l 29,.mv (.p 7),none⟩,⟨.l 30,.bin .neq (.l 28) (.l 29),none⟩]) (.cond (.l 30) (.seq (.region [⟨.l 31,.mv (.p 6),none⟩,⟨.l 32,.mv (.p 7),none⟩,⟨.l 33,.call (.c (.fn (.func 157) [] [])) [(.l 31),(.l 32)],none⟩,⟨.p 4,.mv (.l 33),none⟩]) (.ret)) (.skip))))) (.region [⟨.l 20,.mv (.p 5),none⟩,⟨.l 21,.bin .add (.l 20) (.c (.int .i64 (1))),none⟩,⟨.p 5,.mv (.l 21),none⟩]))
def b102:ICode:=.seq (.region [⟨.p 2,.box 167 4 (.p 0),none⟩,⟨.p 3,.box 167 4 (.p 1),none⟩,⟨.p 4,.mv (.c (.int .i64 (0))),none⟩]) (.seq (.seq (.region [⟨.p 5,.mv (.c (.int .i64 (0))),none⟩]) (.block 0 (.loop b102_0))) (.seq (.seq (.region [⟨.l 34,.faddr 3 (.p 2),none⟩,⟨.l 35,.load 1 false (.l 34),none⟩,⟨.l 36,.faddr 3 (.p 3),none⟩,⟨.l 37,.load 1 false (.l 36),none⟩,⟨.l 38,.eq true .bool (.l 35) (.l 37),none⟩]) (.cond (.l 38) (.seq (.seq (.region [⟨.l 39,.faddr 3 (.p 3),none⟩,⟨.l 40,.load 1 false (.l 39),none⟩]) (.cond (.l 40) (.seq (.region [⟨.p 4,.mv (.c (.int .i64 (1))),none⟩]) (.ret)) (.skip))) (.seq (.region [⟨.p 4,.mv (.c (.int .i64 (-1))),none⟩]) (.ret))) (.skip))) (.seq (.region [⟨.p 4,.mv (.c (.int .i64 (0))),none⟩]) (.ret))))
theorem ft102:FT 102=some ⟨41,[0,1,2,3,4,5,6,7],[.var (.p 4)],b102⟩:=by kernel_rfl
def b49_0:ICode:=.seq (.seq (.region [⟨.l 56,.mv (.p 8),none⟩,⟨.l 57,.mv (.p 1),none⟩,⟨.l 58,.len .sl (.l 57),none⟩,⟨.l 59,.bin .lss (.l 56) (.l 58),none⟩]) (.cond (.l 59) (.skip) (.exit 2))) (.seq (.block 3 (.seq (.seq (.region [⟨.l 62,.mv (.p 1),none⟩,⟨.l 63,.mv (.p 8),none⟩,⟨.l 64,.iaddr none 4 (.l 62) (.l 63),none⟩,⟨.l 65,.load 4 true (.l 64),none⟩,⟨.l 66,.call (.c (.fn (.func 99) [] [])) [(.l 65)],none⟩,⟨.l 67,.bin .lss (.l 66) (.c (.int .i64 (0))),none⟩]) (.cond (.l 67) (.exit 3) (.skip))) (.seq (.draw [(⟨.l 68,.mv (.p 1),none⟩,[]),(⟨.l 69,.mv (.p 8),none⟩,[0]),(⟨.l 70,.iaddr none 4 (.l 68) (.l 69),none⟩,[]),(⟨.l 71,.load 4 true (.l 70),none⟩,[]),(⟨.l 72,.mv (.p 1),none⟩,[0,1,2,3]),(⟨.l 73,.mv (.p 6),none⟩,[0,1,2,3,4]),(⟨.l 74,.iaddr none 4 (.l 72) (.l 73),none⟩,[0,1,2,3]),(⟨.l 75,.load 4 true (.l 74),none⟩,[0,1,2,3]),(⟨.l 76,.call (.c (.fn (.func 100) [] [])) [(.l 71),(.l 75)],none⟩,[]),(⟨.p 9,.mv (.l 76),none⟩,[])]) (.seq (.seq (.region [⟨.l 77,.mv (.p 9),none⟩,⟨.l 78,.bin .eql (.l 77) (.c (.int .i64 (0))),none⟩,⟨.l 79,.mv (.l 78),none⟩,⟨.l 80,.mv (.p 4),some ((.l 79),true)⟩,⟨.l 81,.mv (.p 6),some ((.l 79),true)⟩,⟨.l 82,.call (.c (.fn (.func 101) [] [])) [(.l 80),(.l 81)],some ((.l 79),true)⟩,⟨.l 83,.pick (.l 79) (.l 82) (.c (.bool false)),none⟩]) (.cond (.l 83) (.draw [(⟨.l 84,.mv (.p 1),none⟩,[]),(⟨.l 85,.mv (.p 8),none⟩,[0]),(⟨.l 86,.iaddr none 4 (.l 84) (.l 85),none⟩,[]),(⟨.l 87,.load 4 true (.l 86),none⟩,[]),(⟨.l 88,.mv (.p 1),none⟩,[0,1,2,3]),(⟨.l 89,.mv (.p 6),none⟩,[0,1,2,3,4]),(⟨.l 90,.iaddr none 4 (.l 88) (.l 89),none⟩,[0,1,2,3]),(⟨.l 91,.load 4 true (.l 90),none⟩,[0,1,2,3]),(⟨.l 92,.call (.c (.fn (.func 102) [] [])) [(.l 87),(.l 91)],none⟩,[]),(⟨.p 9,.mv (.l 92),none⟩,[])]) (.skip))) (.seq (.region [⟨.l 93,.mv (.p 9),none⟩,⟨.l 94,.bin .gtr (.l 93) (.c (.int .i64 (0))),none⟩]) (.cond (.l 94) (.region [⟨.l 95,.faddr 1 (.p 7),none⟩,⟨.l 96,.load 1 false (.l 95),none⟩,⟨.l 97,.bin .add (.l 96) (.c (.int .i64 (1))),none⟩,⟨.l 98,.faddr 1 (.p 7),none⟩,⟨.no,.store 1 (.l 98) (.l 97),none⟩]) (.skip))))))) (.region [⟨.l 60,.mv (.p 8),none⟩,⟨.l 61,.bin .add (.l 60) (.c (.int .i64 (1))),none⟩,⟨.p 8,.mv (.l 61),none⟩]))
def b49_1:ICode:=.seq (.seq (.region [⟨.l 13,.mv (.p 6),none⟩,⟨.l 14,.mv (.p 1),none⟩,⟨.l 15,.len .sl (.l 14),none⟩,⟨.l 16,.bin .lss (.l 13) (.l 15),none⟩]) (.cond (.l 16) (.skip) (.exit 0))) (.seq (.block 1 (.seq (.draw [(⟨.l 19,.mv (.p 1),none⟩,[]),(⟨.l 20,.mv (.p 6),none⟩,[0]),(⟨.l 21,.iaddr none 4 (.l 19) (.l 20),none⟩,[]),(⟨.l 22,.faddr 0 (.l 21),none⟩,[]),(⟨.l 23,.load 1 false (.l 22),none⟩,[]),(⟨.l 24,.mv (.p 1),none⟩,[0,1,2,3,4]),(⟨.l 25,.mv (.p 6),none⟩,[0,1,2,3,4,5]),(⟨.l 26,.iaddr none 4 (.l 24) (.l 25),none⟩,[0,1,2,3,4]),(⟨.l 27,.faddr 1 (.l 26),none⟩,[0,1,2,3,4]),(⟨.l 28,.load 1 false (.l 27),none⟩,[0,1,2,3,4]),(⟨.l 29,.len .sl (.l 28),none⟩,[0,1,2,3,4]),(⟨.l 30,.bin .eql (.l 29) (.c (.int .i64 (0))),none⟩,[0,1,2,3,4]),(⟨.l 31,.mv (.p 1),none⟩,[0,1,2,3,4,5,6,7,8,9,10,11]),(⟨.l 32,.mv (.p 6),none⟩,[0,1,2,3,4,5,6,7,8,9,10,11,12]),(⟨.l 33,.iaddr none 4 (.l 31) (.l 32),none⟩,[0,1,2,3,4,5,6,7,8,9,10,11]),(⟨.l 34,.faddr 3 (.l 33),none⟩,[0,1,2,3,4,5,6,7,8,9,10,11]),(⟨.l 35,.load 1 false (.l 34),none⟩,[0,1,2,3,4,5,6,7,8,9,10,11]),(⟨.l 36,.call (.c (.fn (.func 79) [] [])) [(.l 30),(.l 35)],none⟩,[0,1,2,3,4]),(⟨.l 37,.build [.str [],.int .i64 (0),.str [],.int .i64 (0),.str []] [(0,1,(.l 23)),(2,3,(.l 36))],none⟩,[]),(⟨.p 7,.alloc 74 [.str [],.int .i64 (0),.str [],.int .i64 (0),.str []],none⟩,[0,1,2,3,4,5,6,7,8,9,10,11,12,13,14,15,16,17,18]),(⟨.no,.store 5 (.p 7) (.l 37),none⟩,[])]) (.seq (.seq (.region [⟨.l 38,.mv (.p 1),none⟩,⟨.l 39,.mv (.p 6),none⟩,⟨.l 40,.iaddr none 4 (.l 38) (.l 39),none⟩,⟨.l 41,.load 4 true (.l 40),none⟩,⟨.l 42,.call (.c (.fn (.func 99) [] [])) [(.l 41)],none⟩,⟨.l 43,.bin .geq (.l 42) (.c (.int .i64 (0))),none⟩]) (.cond (.l 43) (.seq (.region [⟨.l 44,.faddr 1 (.p 7),none⟩,⟨.no,.store 1 (.l 44) (.c (.int .i64 (1))),none⟩]) (.seq (.draw [(⟨.l 45,.faddr 1 (.p 2),none⟩,[]),(⟨.l 46,.load 1 false (.l 45),none⟩,[]),(⟨.l 47,.mv (.p 1),none⟩,[0,1]),(⟨.l 48,.mv (.p 6),none⟩,[0,1,2]),(⟨.l 49,.iaddr none 4 (.l 47) (.l 48),none⟩,[0,1]),(⟨.l 50,.load 4 true (.l 49),none⟩,[0,1]),(⟨.l 51,.call (.c (.fn (.func 99) [] [])) [(.l 50)],none⟩,[0,1]),(⟨.l 52,.iaddr none 1 (.l 46) (.l 51),none⟩,[]),(⟨.l 53,.load 1 false (.l 52),none⟩,[]),(⟨.l 54,.build [.str [],.int .i64 (0),.str []] [(0,1,(.c (.str [108,101,110,103,116,104]))),(1,1,(.l 53))],none⟩,[]),(⟨.l 55,.faddr 2 (.p 7),none⟩,[]),(⟨.no,.store 3 (.l 55) (.l 54),none⟩,[])]) (.seq (.region [⟨.p 8,.mv (.c (.int .i64 (0))),none⟩]) (.block 2 (.loop b49_0))))) (.skip))) (.region [⟨.l 99,.mv (.p 5),none⟩,⟨.l 100,.load 5 true (.p 7),none⟩,⟨.l 101,.bslice 74 1 5 [.str [],.int .i64 (0),.str [],.int .i64 (0),.str []] [(0,5,(.l 100))],none⟩,⟨.l 102,.append 74 5 64 (.l 99) (.l 101),none⟩,⟨.p 5,.mv (.l 102),none⟩])))) (.region [⟨.l 17,.mv (.p 6),none⟩,⟨.l 18,.bin .add (.l 17) (.c (.int .i64 (1))),none⟩,⟨.p 6,.mv (.l 18),none⟩]))
def b49:ICode:=.seq (.region [⟨.p 2,.box 27 3 (.p 0),none⟩,⟨.p 3,.mv (.c (.nilsl)),none⟩]) (.seq (.region [⟨.l 11,.mv (.p 1),none⟩,⟨.l 12,.call (.c (.fn (.func 98) [] [])) [(.l 11)],none⟩,⟨.p 4,.mv (.l 12),none⟩]) (.seq (.region [⟨.p 5,.mv (.c (.nilsl)),none⟩]) (.seq (.seq (.region [⟨.p 6,.mv (.c (.int .i64 (0))),none⟩]) (.block 0 (.loop b49_1))) (.seq (.region [⟨.l 103,.mv (.p 5),none⟩,⟨.l 104,.call (.c (.fn (.func 80) [] [])) [(.l 103)],none⟩,⟨.p 3,.mv (.l 104),none⟩]) (.ret)))))
theorem ft49:FT 49=some ⟨105,[0,1,2,4,5,6,7,8,9,10],[.var (.p 3)],b49⟩:=by kernel_rfl
def b50_0:ICode:=.seq (.seq (.region [⟨.l 5,.mv (.p 3),none⟩,⟨.l 6,.mv (.p 0),none⟩,⟨.l 7,.len .sl (.l 6),none⟩,⟨.l 8,.bin .lss (.l 5) (.l 7),none⟩]) (.cond (.l 8) (.skip) (.exit 0))) (.seq (.block 1 (.region [⟨.l 11,.mv (.p 2),none⟩,⟨.l 12,.mv (.p 0),none⟩,⟨.l 13,.mv (.p 3),none⟩,⟨.l 14,.iaddr none 4 (.l 12) (.l 13),none⟩,⟨.l 15,.faddr 2 (.l 14),none⟩,⟨.l 16,.load 1 false (.l 15),none⟩,⟨.l 17,.len .sl (.l 16),none⟩,⟨.l 18,.mm true [(.l 11),(.l 17)],none⟩,⟨.p 2,.mv (.l 18),none⟩])) (.region [⟨.l 9,.mv (.p 3),none⟩,⟨.l 10,.bin .add (.l 9) (.c (.int .i64 (1))),none⟩,⟨.p 3,.mv (.l 10),none⟩]))
def b50:ICode:=.seq (.region [⟨.p 1,.mv (.c (.int .i64 (0))),none⟩]) (.seq (.region [⟨.p 2,.mv (.c (.int .i64 (0))),none⟩]) (.seq (.seq (.region [⟨.p 3,.mv (.c (.int .i64 (0))),none⟩]) (.block 0 (.loop b50_0))) (.seq (.region [⟨.l 19,.mv (.p 2),none⟩,⟨.p 1,.mv (.l 19),none⟩]) (.ret))))
theorem ft50:FT 50=some ⟨20,[0,2,3,4],[.var (.p 1)],b50⟩:=by kernel_rfl
def b51:ICode:=.seq (.region [⟨.p 1,.mv (.c (.bool false)),none⟩]) (.seq (.region [⟨.l 3,.mv (.p 0),none⟩,⟨.l 4,.call (.c (.fn (.func 98) [] [])) [(.l 3)],none⟩,⟨.l 5,.len .sl (.l 4),none⟩,⟨.l 6,.bin .gtr (.l 5) (.c (.int .i64 (0))),none⟩,⟨.p 1,.mv (.l 6),none⟩]) (.ret))
theorem ft51:FT 51=some ⟨7,[0,2],[.var (.p 1)],b51⟩:=by kernel_rfl
def b103_0:ICode:=.seq (.seq (.region [⟨.l 31,.mv (.p 8),none⟩,⟨.l 32,.mv (.p 1),none⟩,⟨.l 33,.len .sl (.l 32),none⟩,⟨.l 34,.bin .lss (.l 31) (.l 33),none⟩]) (.cond (.l 34) (.skip) (.exit 2))) (.seq (.block 3 (.region [⟨.l 37,.mv (.p 7),none⟩,⟨.l 38,.mv (.l 37),none⟩,⟨.l 39,.mv (.p 6),some ((.l 38),false)⟩,⟨.l 40,.mv (.p 1),some ((.l 38),false)⟩,⟨.l 41,.mv (.p 8),some ((.l 38),false)⟩,⟨.l 42,.iaddr none 4 (.l 40) (.l 41),some ((.l 38),false)⟩,⟨.l 43,.faddr 2 (.l 42),some ((.l 38),false)⟩,⟨.l 44,.load 1 false (.l 43),some ((.l 38),false)⟩,⟨.l 45,.len .sl (.l 44),some ((.l 38),false)⟩,⟨.l 46,.bin .lss (.l 39) (.l 45),some ((.l 38),false)⟩,⟨.l 47,.mv (.l 46),some ((.l 38),false)⟩,⟨.l 48,.mv (.p 1),some ((.l 47),true)⟩,⟨.l 49,.mv (.p 8),some ((.l 47),true)⟩,⟨.l 50,.iaddr none 4 (.l 48) (.l 49),some ((.l 47),true)⟩,⟨.l 51,.faddr 2 (.l 50),some ((.l 47),true)⟩,⟨.l 52,.load 1 false (.l 51),some ((.l 47),true)⟩,⟨.l 53,.mv (.p 6),some ((.l 47),true)⟩,⟨.l 54,.iaddr none 1 (.l 52) (.l 53),some ((.l 47),true)⟩,⟨.l 55,.load 1 false (.l 54),some ((.l 47),true)⟩,⟨.l 56,.bin .eql (.l 55) (.c (.str [111])),some ((.l 47),true)⟩,⟨.l 57,.pick (.l 47) (.l 56) (.c (.bool false)),some ((.l 38),false)⟩,⟨.l 58,.pick (.l 38) (.c (.bool true)) (.l 57),none⟩,⟨.p 7,.mv (.l 58),none⟩])) (.region [⟨.l 35,.mv (.p 8),none⟩,⟨.l 36,.bin .add (.l 35) (.c (.int .i64 (1))),none⟩,⟨.p 8,.mv (.l 36),none⟩]))
def b103_1:ICode:=.seq (.seq (.region [⟨.l 26,.mv (.p 6),none⟩,⟨.l 27,.mv (.p 2),none⟩,⟨.l 28,.bin .lss (.l 26) (.l 27),none⟩]) (.cond (.l 28) (.skip) (.exit 0))) (.seq (.block 1 (.seq (.region [⟨.p 7,.mv (.c (.bool false)),none⟩]) (.seq (.seq (.region [⟨.p 8,.mv (.c (.int .i64 (0))),none⟩]) (.block 2 (.loop b103_0))) (.seq (.region [⟨.l 59,.mv (.p 7),none⟩]) (.cond (.l 59) (.region [⟨.l 60,.mv (.p 5),none⟩,⟨.l 61,.faddr 2 (.p 3),none⟩,⟨.l 62,.load 1 false (.l 61),none⟩,⟨.l 63,.bin .add (.l 60) (.l 62),none⟩,⟨.p 5,.mv (.l 63),none⟩]) (.region [⟨.l 64,.faddr 2 (.p 3),none⟩,⟨.l 65,.load 1 false (.l 64),none⟩,⟨.l 66,.mv (.p 5),none⟩,⟨.l 67,.faddr 2 (.p 3),none⟩,⟨.l 68,.load 1 false (.l 67),none⟩,⟨.l 69,.bin .sub (.l 66) (.l 68),none⟩,⟨.l 70,.mm true [(.l 65),(.l 69)],none⟩,⟨.p 5,.mv (.l 70),none⟩])))))) (.region [⟨.l 29,.mv (.p 6),none⟩,⟨.l 30,.bin .add (.l 29) (.c (.int .i64 (1))),none⟩,⟨.p 6,.mv (.l 30),none⟩]))
def b103:ICode:=.seq (.region [⟨.p 3,.box 27 3 (.p 0),none⟩,⟨.p 4,.mv (.c (.int .i64 (0))),none⟩]) (.seq (.draw [(⟨.l 11,.faddr 1 (.p 3),none⟩,[]),(⟨.l 12,.load 1 false (.l 11),none⟩,[]),(⟨.l 13,.mv (.p 1),none⟩,[0,1]),(⟨.l 14,.mv (.p 1),none⟩,[0,1,2]),(⟨.l 15,.call (.c (.fn (.func 98) [] [])) [(.l 14)],none⟩,[0,1,2]),(⟨.l 16,.iaddr none 1 (.l 15) (.c (.int .i64 (0))),none⟩,[0,1,2]),(⟨.l 17,.load 1 false (.l 16),none⟩,[0,1,2]),(⟨.l 18,.iaddr none 4 (.l 13) (.l 17),none⟩,[0,1]),(⟨.l 19,.load 4 true (.l 18),none⟩,[0,1]),(⟨.l 20,.call (.c (.fn (.func 99) [] [])) [(.l 19)],none⟩,[0,1]),(⟨.l 21,.iaddr none 1 (.l 12) (.l 20),none⟩,[]),(⟨.l 22,.load 1 false (.l 21),none⟩,[]),(⟨.l 23,.faddr 2 (.p 3),none⟩,[0,1,2,3,4,5,6,7,8,9,10,11]),(⟨.l 24,.load 1 false (.l 23),none⟩,[0,1,2,3,4,5,6,7,8,9,10,11]),(⟨.l 25,.bin .add (.l 22) (.l 24),none⟩,[]),(⟨.p 5,.mv (.l 25),none⟩,[])]) (.seq (.seq (.region [⟨.p 6,.mv (.c (.int .i64 (0))),none⟩]) (.block 0 (.loop b103_1))) (.seq (.region [⟨.l 71,.mv (.p 5),none⟩,⟨.p 4,.mv (.l 71),none⟩]) (.ret))))
theorem ft103:FT 103=some ⟨72,[0,1,2,3,6,7,8,9,10],[.var (.p 4)],b103⟩:=by kernel_rfl
def b53_0:ICode:=.seq (.seq (.region [⟨.l 7,.mv (.p 5),none⟩,⟨.l 8,.mv (.p 1),none⟩,⟨.l 9,.call (.c (.fn (.func 50) [] [])) [(.l 8)],none⟩,⟨.l 10,.bin .lss (.l 7) (.l 9),none⟩]) (.cond (.l 10) (.skip) (.exit 0))) (.seq (.block 1 (.region [⟨.l 13,.mv (.p 4),none⟩,⟨.l 14,.load 3 true (.p 2),none⟩,⟨.l 15,.mv (.p 1),none⟩,⟨.l 16,.mv (.p 5),none⟩,⟨.l 17,.call (.c (.fn (.func 103) [] [])) [(.l 14),(.l 15),(.l 16)],none⟩,⟨.l 18,.bslice 3 1 1 [.int .i64 (0)] [(0,1,(.l 17))],none⟩,⟨.l 19,.append 3 1 8 (.l 13) (.l 18),none⟩,⟨.p 4,.mv (.l 19),none⟩])) (.region [⟨.l 11,.mv (.p 5),none⟩,⟨.l 12,.bin .add (.l 11) (.c (.int .i64 (1))),none⟩,⟨.p 5,.mv (.l 12),none⟩]))
def b53:ICode:=.seq (.region [⟨.p 2,.box 27 3 (.p 0),none⟩,⟨.p 3,.mv (.c (.nilsl)),none⟩]) (.seq (.region [⟨.p 4,.mv (.c (.nilsl)),none⟩]) (.seq (.seq (.region [⟨.p 5,.mv (.c (.int .i64 (0))),none⟩]) (.block 0 (.loop b53_0))) (.seq (.region [⟨.l 20,.mv (.p 4),none⟩,⟨.p 3,.mv (.l 20),none⟩]) (.ret))))
theorem ft53:FT 53=some ⟨21,[0,1,2,4,5,6],[.var (.p 3)],b53⟩:=by kernel_rfl
def b52_0:ICode:=.seq (.seq (.region [⟨.l 11,.mv (.p 3),none⟩,⟨.l 12,.mv (.p 0),none⟩,⟨.l 13,.len .sl (.l 12),none⟩,⟨.l 14,.bin .lss (.l 11) (.l 13),none⟩]) (.cond (.l 14) (.skip) (.exit 0))) (.seq (.block 1 (.seq (.draw [(⟨.l 17,.mv (.p 0),none⟩,[]),(⟨.l 18,.mv (.p 3),none⟩,[0]),(⟨.l 19,.iaddr none 1 (.l 17) (.l 18),none⟩,[]),(⟨.l 20,.load 1 false (.l 19),none⟩,[]),(⟨.l 21,.mv (.p 1),none⟩,[0,1,2,3]),(⟨.l 22,.mv (.p 3),none⟩,[0,1,2,3,4]),(⟨.l 23,.iaddr none 1 (.l 21) (.l 22),none⟩,[0,1,2,3]),(⟨.l 24,.load 1 false (.l 23),none⟩,[0,1,2,3]),(⟨.l 25,.bin .neq (.l 20) (.l 24),none⟩,[])]) (.cond (.l 25) (.seq (.region [⟨.p 2,.mv (.c (.bool false)),none⟩]) (.ret)) (.skip)))) (.region [⟨.l 15,.mv (.p 3),none⟩,⟨.l 16,.bin .add (.l 15) (.c (.int .i64 (1))),none⟩,⟨.p 3,.mv (.l 16),none⟩]))
def b52:ICode:=.seq (.region [⟨.p 2,.mv (.c (.bool false)),none⟩]) (.seq (.seq (.region [⟨.l 6,.mv (.p 0),none⟩,⟨.l 7,.len .sl (.l 6),none⟩,⟨.l 8,.mv (.p 1),none⟩,⟨.l 9,.len .sl (.l 8),none⟩,⟨.l 10,.bin .neq (.l 7) (.l 9),none⟩]) (.cond (.l 10) (.seq (.region [⟨.p 2,.mv (.c (.bool false)),none⟩]) (.ret)) (.skip))) (.seq (.seq (.region [⟨.p 3,.mv (.c (.int .i64 (0))),none⟩]) (.block 0 (.loop b52_0))) (.seq (.region [⟨.p 2,.mv (.c (.bool true)),none⟩]) (.ret))))
theorem ft52:FT 52=some ⟨26,[0,1,4,5],[.var (.p 2)],b52⟩:=by kernel_rfl
end Go.Ab.Ch6

/-
  Own work: chapter 6: cards of a competition over heights: their errors and scores, in plain words.
-/
namespace Go.Ab.Ch6
open Go.Ab.Sort
structure Card where
 who:Str
 hs:List Str
 off:List Str
 ret:Bool
 deriving DecidableEq,Inhabited
def cardC (c:Card):List AV:=[.str c.who,.vs (strs c.hs) c.hs.length none,.vs (strs c.off) c.off.length none,.bool c.ret]
def shortC (c:Card):Bool:=decide (c.who.length≤40) && decide (c.hs.length≤30) && decide (c.off.length≤30) && c.hs.all (fun s=>decide (s.length≤10)) && c.off.all (fun s=>decide (s.length≤10))
def shortCs (names:List Str) (hs:List Int) (l:List Card):Bool:=shortN names && decide (hs.length≤27) && decide (l.length≤35) && l.all shortC
def failN:Str→Nat
 | []=>0
 | b::s=>(if b.toNat=120 then 1 else 0)+failN s
def lastB (s:Str):Nat:=if s.length=0 then 0 else (s[s.length-1]!).toNat
def shapB:Str→Bool
 | []=>true
 | b::s=>(decide (b.toNat=120) || (s.isEmpty && (decide (b.toNat=111) || decide (b.toNat=45)))) && shapB s
theorem shapB_drop {s:Str} {i:Nat} (h:i<s.length):shapB (s.drop i)=((decide ((s[i]!).toNat=120) || (decide (i+1=s.length) && (decide ((s[i]!).toNat=111) || decide ((s[i]!).toNat=45)))) && shapB (s.drop (i+1))):=by
 rw [List.drop_eq_getElem_cons h,getElem!_pos s i h,shapB]
 congr 3
 rw [Bool.eq_iff_iff,List.isEmpty_iff,List.drop_eq_nil_iff,decide_eq_true_eq]
 omega
def shaped (s:Str):Bool:=decide (1≤s.length) && decide (s.length≤3) && shapB s
theorem lastB_lt (s:Str):lastB s<256:=by
 unfold lastB
 split
 · omega
 · exact (s[s.length-1]!).toNat_lt
theorem failN_le:∀ s:Str,failN s≤s.length
 | []=>Nat.le_refl _
 | b::s=>by have:=failN_le s;rw [failN,List.length_cons];split <;> omega
theorem failN_take {s:Str} {i:Nat} (h:i<s.length):failN (s.take (i+1))=failN (s.take i)+if (s[i]!).toNat=120 then 1 else 0:=by
 induction s generalizing i with
 | nil=>simp at h
 | cons b s ih=>
  cases i with
  | zero=>simp [failN]
  | succ i=>
   have:=ih (i:=i) (by simpa using h)
   rw [List.take_succ_cons,List.take_succ_cons,failN,failN,this]
   have e:(b::s)[i+1]! = s[i]! := by simp [List.getElem!_eq_getElem?_getD]
   rw [e];omega
def stateE:Nat→List Str→Int
 | _,[]=>0
 | n,s::r=>
  if 3<n+failN s∨(n+failN s=3∧lastB s≠120)∨(lastB s=120∧r≠[]) then 19
  else stateE (if lastB s=111 then 0 else n+failN s) r
def sO:Str:=[111]
def sX:Str:=[120]
def offOk (s:Str):Bool:=decide (s=sO) || decide (s=sX)
def formE (c:Card):Int:=
 if isName c.who=false then 8 else if 24<c.hs.length∨24<c.off.length then 5
 else if c.hs.all shaped=false then 1 else if c.off.all offOk=false then 1 else stateE 0 c.hs
def cardE (names:List Str) (hs:List Int) (i:Nat) (c:Card):Int:=
 if c.who≠names[i]! then 10 else if formE c≠0 then formE c else if hs.length<c.hs.length then 5 else 0
def cardsF (names:List Str) (hs:List Int):Nat→List Card→Int
 | _,[]=>0
 | i,c::l=>if cardE names hs i c≠0 then cardE names hs i c else cardsF names hs (i+1) l
def cardsE (names:List Str) (hs:List Int) (l:List Card):Int:=if l.length≠names.length then 2 else cardsF names hs 0 l
def bestG:Nat→Int→List Str→Int
 | _,b,[]=>b
 | i,b,s::r=>bestG (i+1) (if lastB s=111 then (i:Int) else b) r
def bestI (c:Card):Int:=bestG 0 (-1) c.hs
theorem bestG_drop {b:Int} {l:List Str} {i:Nat} (h:i<l.length):bestG i b (l.drop i)=bestG (i+1) (if lastB l[i]! = 111 then (i:Int) else b) (l.drop (i+1)):=by
 rw [List.drop_eq_getElem_cons h,getElem!_pos l i h,bestG]
theorem bestG_lt:∀ {l:List Str} {i:Nat} {b:Int},-1≤b→b<i → -1≤bestG i b l∧bestG i b l<i+l.length
 | [],i,b,h1,h2=>by rw [bestG];exact ⟨h1,by simpa using h2⟩
 | s::r,i,b,h1,h2=>by
  rw [bestG]
  have:=bestG_lt (l:=r) (i:=i+1) (b:=if lastB s=111 then (i:Int) else b) (by split <;> omega) (by split <;> omega)
  rw [List.length_cons]
  omega
theorem bestI_lt (c:Card) : -1≤bestI c∧bestI c<c.hs.length:=by
 have:=bestG_lt (l:=c.hs) (i:=0) (b:=-1) (by omega) (by omega)
 unfold bestI
 omega
def sumF (l:List Str):Nat:=(l.map failN).sum
theorem sumF_take {l:List Str} {i:Nat} (h:i<l.length):sumF (l.take (i+1))=sumF (l.take i)+failN l[i]! := by
 rw [sumF,sumF,List.take_add_one,List.getElem?_eq_getElem h,getElem!_pos l i h,Option.toList_some,List.map_append,List.sum_append,List.map_cons,List.map_nil,List.sum_cons,List.sum_nil,Nat.add_zero]
theorem sumF_le {B:Nat}:∀ {l:List Str},(∀ s∈l,s.length<B)→sumF l≤l.length*B
 | [],_=>by simp [sumF]
 | s::l,h=>by
  have h1:=failN_le s
  have h2:=h s (by simp)
  have h3:=sumF_le (l:=l) (fun x hx=>h x (by simp [hx]))
  simp only [sumF,List.map_cons,List.sum_cons,List.length_cons,Nat.succ_mul] at *
  omega
def totalN (c:Card):Nat:=sumF (c.hs.take (bestI c+1).toNat)
def cmpR (a b:Int):Int:=if b<a then 1 else if a<b then -1 else 0
def higherI (a b:Card):Int:=
 if bestI a≠bestI b then cmpR (bestI a) (bestI b)
 else if failN a.hs[(bestI a).toNat]! ≠ failN b.hs[(bestI b).toNat]! then cmpR (failN b.hs[(bestI b).toNat]!) (failN a.hs[(bestI a).toNat]!)
 else cmpR (totalN b) (totalN a)
def worse (c k:Card):Bool:=decide (0≤bestI k) && decide (0<higherI k c)
def isFirst (l:List Card) (c:Card):Bool:=decide (0≤bestI c) && l.all fun k=>!worse c k
def firstsL (l:List Card):List Int:=(numsTo l.length).filter fun i=>isFirst l l[i.toNat]!
def notedI (c:Card) (i:Nat):Int:=if c.off.length≤i then 0 else if c.off[i]! = sO then 2 else 1
def offT (a b:Card):Int:=if a.ret=b.ret then 0 else if b.ret=true then 1 else -1
def offG (a b:Card):Nat→Nat→Int
 | 0,_=>offT a b
 | r+1,i=>if notedI a i≠notedI b i then cmpR (notedI a i) (notedI b i) else offG a b r (i+1)
def offI (a b:Card):Int:=offG a b (max a.off.length b.off.length) 0
def aheadI (l:List Card) (i:Int) (c k:Card):Int:=if higherI k c=0∧i∈firstsL l then offI k c else higherI k c
def beats (l:List Card) (i:Int) (c k:Card):Bool:=decide (0≤bestI k) && decide (0<aheadI l i c k)
def rankS (l:List Card) (i:Int) (c:Card):Nat:=1+l.countP (beats l i c)
def placeS (hs:List Int) (l:List Card) (i:Int) (c:Card):Place:=
 if 0≤bestI c then ⟨c.who,rankS l i c,sLength,hs[(bestI c).toNat]!,[]⟩ else ⟨c.who,0,sNone,0,noWhy (decide (c.hs.length=0)) c.ret⟩
def standS (hs:List Int) (l:List Card):List Place:=(numsTo l.length).map fun i=>placeS hs l i l[i.toNat]!
theorem standS_len (hs:List Int) (l:List Card):(standS hs l).length=l.length:=by rw [standS,List.length_map,numsTo_length]
theorem standS_get {hs:List Int} {l:List Card} {i:Nat} (h:i<l.length):(standS hs l)[i]! = placeS hs l i l[i]! := by
 have h':i<(numsTo l.length).length:=by rw [numsTo_length];exact h
 rw [getElem!_pos _ i (by rw [standS_len];exact h)]
 have e:(numsTo l.length)[i]=(i:Int):=by simp [numsTo]
 simp only [standS,List.getElem_map,e,Int.toNat_natCast]
theorem count_take {p:Card→Bool} {l:List Card} {i:Nat} (h:i<l.length):(l.take (i+1)).countP p=(l.take i).countP p+if p l[i]! = true then 1 else 0:=by
 rw [List.take_add_one,List.getElem?_eq_getElem h,getElem!_pos l i h,Option.toList_some,List.countP_append,List.countP_cons,List.countP_nil,Nat.zero_add]
def roundsN:List Card→Nat
 | []=>0
 | c::l=>max c.off.length (roundsN l)
def roundsF (m:Nat):List Card→Nat
 | []=>m
 | c::l=>roundsF (max m c.off.length) l
theorem roundsF_eq:∀ {l:List Card} {m:Nat},roundsF m l=max m (roundsN l)
 | [],m=>by simp [roundsF,roundsN]
 | c::l,m=>by rw [roundsF,roundsF_eq,roundsN];omega
theorem roundsF_drop {m:Nat} {l:List Card} {i:Nat} (h:i<l.length):roundsF m (l.drop i)=roundsF (max m (l[i]!).off.length) (l.drop (i+1)):=by
 rw [List.drop_eq_getElem_cons h,getElem!_pos l i h,roundsF]
def clearC (n:Nat) (c:Card):Bool:=decide (n<c.off.length) && decide (c.off[n]! = sO)
def first0 (l:List Card):Card:=l[((firstsL l)[0]!).toNat]!
def offH (hs:List Int) (step:Int) (l:List Card):Nat→Int
 | 0=>hs[(bestI (first0 l)).toNat]! + step
 | n+1=>if l.any (clearC n)=true then offH hs step l n+step else max step (offH hs step l n-step)
theorem offH_le {hs:List Int} {step:Int} {l:List Card} (h1:0≤step∧step≤1000) (h2:0≤hs[(bestI (first0 l)).toNat]! ∧ hs[(bestI (first0 l)).toNat]! ≤ 1000000):∀ n:Nat,0≤offH hs step l n∧offH hs step l n≤1000000+1000*(n+1)
 | 0=>by rw [offH];omega
 | n+1=>by
  have:=offH_le h1 h2 n
  rw [offH]
  split <;> omega
theorem first0_best {l:List Card} (h:firstsL l≠[]):0≤(firstsL l)[0]! ∧ (firstsL l)[0]! < l.length∧0≤bestI (first0 l):=by
 have hl:0<(firstsL l).length:=List.length_pos_iff.2 h
 have hm:(firstsL l)[0]! ∈ firstsL l:=by rw [getElem!_pos _ 0 hl];exact List.getElem_mem hl
 rw [firstsL,List.mem_filter,← firstsL] at hm
 obtain ⟨h1,h2⟩:=hm
 have h1:=numsTo_mem.1 h1
 refine ⟨h1.1,h1.2,?_⟩
 have h2:isFirst l (first0 l)=true:=h2
 rw [isFirst,Bool.and_eq_true,decide_eq_true_eq] at h2
 exact h2.1
end Go.Ab.Ch6

/-
  Own work: chapter 6: cards, by the reference: texts of heights, short cards.
-/
namespace Go.Ab.Ch6
variable {M:Mach} {cap c1 c2:Option Nat}
theorem w149 (hft:M.FT=FT) (s:Str) (hl:s.length<1000000):Run M 149 [.str s] [] ⟨.int .i64 (failN s),[],[]⟩:=by
 refine run_of_W (by rw [hft];exact ft149) (by simp) ?_
 unfold b149
 simp only [enter]
 repeat' first|apply W.seq|apply SQn|apply W.region|apply WO.nil|apply W.block|(apply WO.pp;rfl;rfl)
 refine W.loopI s.length (fun i s'=>∃ lo wr,s'=⟨⟨[.str s,.int .i64 0,.int .i64 (failN (s.take i)),.int .i64 i],lo,[],[]⟩,wr⟩) (fun i s' hi ⟨lo,wr,hs⟩=>?_) (fun s' ⟨lo,wr,hs⟩=>?_) (Nat.zero_le _) ⟨_,_,rfl⟩
 · subst hs
   have e:=failN_take hi
   rw [show s[i]! = s[((i:Int)).toNat]! from rfl] at e
   have hle:=failN_le (s.take i)
   rw [List.length_take] at hle
   unfold b149_0
   by_cases h:(s[((i:Int)).toNat]!).toNat=120
   · rw [if_pos h] at e
     have h':((s[((i:Int)).toNat]!).toNat:Int)=120:=by omega
     repeat' first|apply W.seq|apply SQn|apply W.region|apply WO.nil|apply W.block|apply W.skip|apply BQn|(apply W.condT;rfl)|(apply WO.lss;rfl;rfl;all_goals first|(intro _;exfalso;omega)|intro _)|(apply WO.eql;rfl;rfl;all_goals first|(intro _;exfalso;omega)|intro _)|(apply WO.add;rfl;rfl;omega)|(apply WO.idx;rfl;rfl;omega)|(apply WO.pl;rfl;rfl)|(apply WO.pp;rfl;rfl)
     all_goals first|contradiction|exact LIn ⟨_,_,by rw [e];rfl⟩
   · rw [if_neg h] at e
     have h':¬ ((s[((i:Int)).toNat]!).toNat:Int)=120:=by omega
     repeat' first|apply W.seq|apply SQn|apply W.region|apply WO.nil|apply W.block|apply W.skip|apply BQn|(apply W.condT;rfl)|(apply W.condF;rfl)|(apply WO.lss;rfl;rfl;all_goals first|(intro _;exfalso;omega)|intro _)|(apply WO.eql;rfl;rfl;all_goals first|(intro _;exfalso;omega)|intro _)|(apply WO.add;rfl;rfl;omega)|(apply WO.idx;rfl;rfl;omega)|(apply WO.pl;rfl;rfl)|(apply WO.pp;rfl;rfl)
     all_goals first|contradiction|exact LIn ⟨_,_,by rw [e];rfl⟩
 · subst hs
   rw [List.take_length]
   unfold b149_0
   repeat' first|apply W.seq|apply SQn|apply W.region|apply WO.nil|apply W.ret|apply W.exit|apply SQe|apply BQe|apply LIe|(apply W.condF;rfl)|(apply WO.lss;rfl;rfl;all_goals first|(intro _;exfalso;omega)|intro _)|(apply WO.pl;rfl;rfl)|(apply WO.pp;rfl;rfl)
   exact ⟨.inr rfl,rfl,_,rfl,rfl,rfl⟩
theorem w150 (hft:M.FT=FT) (s:Str) (hl:s.length<1000000):Run M 150 [.str s] [] ⟨.int .u8 (lastB s),[],[]⟩:=by
 refine run_of_W (by rw [hft];exact ft150) (by simp) ?_
 unfold b150
 simp only [enter]
 by_cases h:s.length=0
 · repeat' first|apply W.seq|apply SQn|apply W.region|apply WO.nil|apply W.ret|apply SQr|(apply W.condT;rfl)|(apply WO.eql;rfl;rfl;all_goals first|(intro _;exfalso;omega)|intro _)|(apply WO.pl;rfl;rfl)|(apply WO.pp;rfl;rfl)
   all_goals first|contradiction|exact ⟨.inr rfl,rfl,_,rfl,by rw [lastB,if_pos h];rfl,rfl⟩
 · repeat' first|apply W.seq|apply SQn|apply W.region|apply WO.nil|apply W.ret|apply W.skip|(apply W.condF;rfl)|(apply WO.eql;rfl;rfl;all_goals first|(intro _;exfalso;omega)|intro _)|(apply WO.sub;rfl;rfl;omega)|(apply WO.idx;rfl;rfl;omega)|(apply WO.pl;rfl;rfl)|(apply WO.pp;rfl;rfl)
   all_goals first|contradiction|skip
   refine ⟨.inr rfl,rfl,_,rfl,?_,rfl⟩
   rw [lastB,if_neg h,show s.length-1=((s.length:Int)-1).toNat by omega]
   rfl
theorem all_dropS {p:Str→Bool} {l:List Str} {i:Nat} (h:i<l.length):(l.drop i).all p=(p l[i]! && (l.drop (i+1)).all p):=all_drop h
theorem w87 (hft:M.FT=FT) (c:Card):Run M 87 [.agg (cardC c)] [] ⟨.bool (shortC c),[],[]⟩:=by
 refine run_of_W (by rw [hft];exact ft87) (by simp) ?_
 unfold b87
 simp only [enter]
 by_cases h1:40<c.who.length
 · repeat' first|apply W.seq|apply SQn|apply W.region|apply WO.nil|apply W.ret|apply SQr|(apply W.condT;rfl)|(apply WO.sF;rfl)|(apply WO.gtr;rfl;rfl;all_goals first|(intro _;exfalso;omega)|intro _)|(apply WO.pkT;rfl;rfl)|(apply WO.hlv;rfl;rfl;rfl)|(apply WO.hpv;rfl;rfl;rfl)|(apply WO.pl;rfl;rfl)|(apply WO.pp;rfl;rfl)
   all_goals exact ⟨.inr rfl,rfl,_,rfl,by rw [shortC,decide_eq_false (by omega)];rfl,rfl⟩
 by_cases h2:30<c.hs.length
 · repeat' first|apply W.seq|apply SQn|apply W.region|apply WO.nil|apply W.ret|apply SQr|(apply W.condT;rfl)|(apply WO.gF;rfl)|(apply WO.sF;rfl)|(apply WO.gtr;rfl;rfl;all_goals first|(intro _;exfalso;omega)|intro _)|(apply WO.pkT;rfl;rfl)|(apply WO.pkF;rfl;rfl)|(apply WO.hlv;rfl;rfl;rfl)|(apply WO.hpv;rfl;rfl;rfl)|(apply WO.pl;rfl;rfl)|(apply WO.pp;rfl;rfl)
   all_goals exact ⟨.inr rfl,rfl,_,rfl,by rw [shortC,decide_eq_false (p:=c.hs.length≤30) (by omega),Bool.and_false];rfl,rfl⟩
 by_cases h3:30<c.off.length
 · repeat' first|apply W.seq|apply SQn|apply W.region|apply WO.nil|apply W.ret|apply SQr|(apply W.condT;rfl)|(apply WO.gF;rfl)|(apply WO.gtr;rfl;rfl;all_goals first|(intro _;exfalso;omega)|intro _)|(apply WO.pkF;rfl;rfl)|(apply WO.hlv;rfl;rfl;rfl)|(apply WO.hpv;rfl;rfl;rfl)|(apply WO.pl;rfl;rfl)|(apply WO.pp;rfl;rfl)
   all_goals exact ⟨.inr rfl,rfl,_,rfl,by rw [shortC,decide_eq_false (p:=c.off.length≤30) (by omega),Bool.and_false];rfl,rfl⟩
 have e0:shortC c=(c.hs.all (fun s=>decide (s.length≤10)) && c.off.all (fun s=>decide (s.length≤10))):=by
  rw [shortC,decide_eq_true (by omega),decide_eq_true (by omega),decide_eq_true (by omega)];rfl
 rw [e0]
 repeat' first|apply W.seq|apply SQn|apply W.region|apply WO.nil|apply W.block|apply W.skip|(apply W.condF;rfl)|(apply WO.gF;rfl)|(apply WO.gtr;rfl;rfl;all_goals first|(intro _;exfalso;omega)|intro _)|(apply WO.pkF;rfl;rfl)|(apply WO.hlv;rfl;rfl;rfl)|(apply WO.hpv;rfl;rfl;rfl)|(apply WO.pl;rfl;rfl)|(apply WO.pp;rfl;rfl)
 refine W.loopI c.hs.length (fun i s=>c.hs.all (fun s=>decide (s.length≤10))=(c.hs.drop i).all (fun s=>decide (s.length≤10))∧∃ a4 lo K wr,s=⟨⟨[.agg (cardC c),.ptr 0 0,.bool false,.int .i64 i,a4],lo,K,[]⟩,wr⟩∧K.at 0=some (.cells (cardC c) 167)) (fun i s hi ⟨he,a4,lo,K,wr,hs,hK⟩=>?_) (fun s ⟨he,a4,lo,K,wr,hs,hK⟩=>?_) (Nat.zero_le _) ⟨rfl,_,_,_,_,rfl,rfl⟩
 · subst hs
   have e:=all_dropS (p:=fun s=>decide (s.length≤10)) hi
   rw [show c.hs[i]! = c.hs[((i:Int)).toNat]! from rfl] at e
   unfold b87_0
   repeat' first|apply W.seq|apply SQn|apply W.region|apply WO.nil|apply W.block|apply W.ret|apply W.skip|apply SQr|apply BQn|apply BQr|apply LIr|(apply W.condT;rfl)|(apply W.condF;rfl)|(apply WO.lss;rfl;rfl;all_goals first|(intro _;exfalso;omega)|intro _)|(apply WO.gtr;rfl;rfl;all_goals first|(intro _;exfalso;omega)|intro _)|(apply WO.add;rfl;rfl;omega)|(apply WO.ldK;rfl;exact hK;rfl)|(apply WO.iav;rfl;rfl;omega)|(apply WO.lda;rfl;exact fun _=>rfl;(first|omega|(simp only [List.length_set];omega)|(simp;omega));decide;rfl;case ia=>infer_instance)|(apply WO.pl;rfl;rfl)|(apply WO.pp;rfl;rfl)
   · rename_i h
     exact ⟨.inr rfl,rfl,_,rfl,by rw [he,e,decide_eq_false (by omega)];rfl,rfl⟩
   · rename_i h
     rw [decide_eq_true (by omega),Bool.true_and] at e
     exact LIn ⟨he.trans e,_,_,_,_,rfl,hK⟩
 · subst hs
   rw [List.drop_length] at he
   rw [he,List.all_nil,Bool.true_and]
   unfold b87_0
   repeat' first|apply W.seq|apply SQn|apply W.region|apply WO.nil|apply W.block|apply W.exit|apply SQe|apply BQe|apply LIe|(apply W.condF;rfl)|(apply WO.lss;rfl;rfl;all_goals first|(intro _;exfalso;omega)|intro _)|(apply WO.ldK;rfl;exact hK;rfl)|(apply WO.pl;rfl;rfl)|(apply WO.pp;rfl;rfl)
   refine W.loopI c.off.length (fun i s=>c.off.all (fun s=>decide (s.length≤10))=(c.off.drop i).all (fun s=>decide (s.length≤10))∧∃ a3 lo K wr,s=⟨⟨[.agg (cardC c),.ptr 0 0,.bool false,a3,.int .i64 i],lo,K,[]⟩,wr⟩∧K.at 0=some (.cells (cardC c) 167)) (fun i s hi ⟨he,a4,lo,K,wr,hs,hK⟩=>?_) (fun s ⟨he,a4,lo,K,wr,hs,hK⟩=>?_) (Nat.zero_le _) ⟨rfl,_,_,_,_,rfl,hK⟩
   · subst hs
     have e:=all_dropS (p:=fun s=>decide (s.length≤10)) hi
     rw [show c.off[i]! = c.off[((i:Int)).toNat]! from rfl] at e
     unfold b87_1
     repeat' first|apply W.seq|apply SQn|apply W.region|apply WO.nil|apply W.block|apply W.ret|apply W.skip|apply SQr|apply BQn|apply BQr|apply LIr|(apply W.condT;rfl)|(apply W.condF;rfl)|(apply WO.lss;rfl;rfl;all_goals first|(intro _;exfalso;omega)|intro _)|(apply WO.gtr;rfl;rfl;all_goals first|(intro _;exfalso;omega)|intro _)|(apply WO.add;rfl;rfl;omega)|(apply WO.ldK;rfl;exact hK;rfl)|(apply WO.iav;rfl;rfl;omega)|(apply WO.lda;rfl;exact fun _=>rfl;(first|omega|(simp only [List.length_set];omega)|(simp;omega));decide;rfl;case ia=>infer_instance)|(apply WO.pl;rfl;rfl)|(apply WO.pp;rfl;rfl)
     · rename_i h
       exact ⟨.inr rfl,rfl,_,rfl,by rw [he,e,decide_eq_false (by omega)];rfl,rfl⟩
     · rename_i h
       rw [decide_eq_true (by omega),Bool.true_and] at e
       exact LIn ⟨he.trans e,_,_,_,_,rfl,hK⟩
   · subst hs
     rw [List.drop_length] at he
     unfold b87_1
     repeat' first|apply W.seq|apply SQn|apply W.region|apply WO.nil|apply W.ret|apply W.exit|apply SQe|apply BQe|apply LIe|(apply W.condF;rfl)|(apply WO.lss;rfl;rfl;all_goals first|(intro _;exfalso;omega)|intro _)|(apply WO.ldK;rfl;exact hK;rfl)|(apply WO.pl;rfl;rfl)|(apply WO.pp;rfl;rfl)
     exact ⟨.inr rfl,rfl,_,rfl,by rw [he];rfl,rfl⟩
end Go.Ab.Ch6

/-
  Own work: chapter 6: cards, by the reference: the form of a card.
-/
namespace Go.Ab.Ch6
variable {M:Mach} {cap c1 c2:Option Nat}
theorem w148 (hft:M.FT=FT) (s:Str):Run M 148 [.str s] [] ⟨.bool (shaped s),[],[]⟩:=by
 refine run_of_W (by rw [hft];exact ft148) (by simp) ?_
 unfold b148
 simp only [enter]
 by_cases h1:s.length<1
 · repeat' first|apply W.seq|apply SQn|apply W.region|apply WO.nil|apply W.ret|apply SQr|(apply W.condT;rfl)|(apply WO.sF;rfl)|(apply WO.lss;rfl;rfl;all_goals first|(intro _;exfalso;omega)|intro _)|(apply WO.pkT;rfl;rfl)|(apply WO.pl;rfl;rfl)|(apply WO.pp;rfl;rfl)
   all_goals exact ⟨.inr rfl,rfl,_,rfl,by rw [shaped,decide_eq_false (by omega)];rfl,rfl⟩
 by_cases h2:3<s.length
 · repeat' first|apply W.seq|apply SQn|apply W.region|apply WO.nil|apply W.ret|apply SQr|(apply W.condT;rfl)|(apply WO.gF;rfl)|(apply WO.lss;rfl;rfl;all_goals first|(intro _;exfalso;omega)|intro _)|(apply WO.gtr;rfl;rfl;all_goals first|(intro _;exfalso;omega)|intro _)|(apply WO.pkF;rfl;rfl)|(apply WO.pl;rfl;rfl)|(apply WO.pp;rfl;rfl)
   all_goals exact ⟨.inr rfl,rfl,_,rfl,by rw [shaped,decide_eq_false (p:=s.length≤3) (by omega),Bool.and_false];rfl,rfl⟩
 have e0:shaped s=shapB s:=by rw [shaped,decide_eq_true (by omega),decide_eq_true (by omega)];rfl
 rw [e0]
 repeat' first|apply W.seq|apply SQn|apply W.region|apply WO.nil|apply W.block|apply W.skip|(apply W.condF;rfl)|(apply WO.gF;rfl)|(apply WO.lss;rfl;rfl;all_goals first|(intro _;exfalso;omega)|intro _)|(apply WO.gtr;rfl;rfl;all_goals first|(intro _;exfalso;omega)|intro _)|(apply WO.pkF;rfl;rfl)|(apply WO.pl;rfl;rfl)|(apply WO.pp;rfl;rfl)
 refine W.loopI s.length (fun i s'=>shapB s=shapB (s.drop i)∧∃ a3 lo wr,s'=⟨⟨[.str s,.bool false,.int .i64 i,a3],lo,[],[]⟩,wr⟩) (fun i s' hi ⟨he,a3,lo,wr,hs⟩=>?_) (fun s' ⟨he,a3,lo,wr,hs⟩=>?_) (Nat.zero_le _) ⟨rfl,_,_,_,rfl⟩
 · subst hs
   have e:=shapB_drop hi
   rw [show s[i]! = s[((i:Int)).toNat]! from rfl] at e
   unfold b148_0
   obtain ⟨b,hb⟩:∃ b,b=(s[((i:Int)).toNat]!).toNat:=⟨_,rfl⟩
   rw [← hb] at e
   by_cases hx:b=120
   · rw [decide_eq_true hx,Bool.true_or,Bool.true_and] at e
     by_cases hl:i+1=s.length
     · by_cases ho:b=111
       · omega
       · by_cases hm:b=45
         · omega
         · repeat' first|apply W.seq|apply SQn|apply W.region|apply WO.nil|apply W.block|apply W.skip|apply BQn|(apply W.condT;rfl)|(apply W.condF;rfl)|(apply WO.gT;rfl)|(apply WO.gF;rfl)|(apply WO.sT;rfl)|(apply WO.lss;rfl;rfl;all_goals first|(intro _;exfalso;omega)|intro _)|(apply WO.eql;rfl;rfl;all_goals first|(intro _;exfalso;omega)|intro _)|(apply WO.neq;rfl;rfl;all_goals first|(intro _;exfalso;omega)|intro _)|(apply WO.pkT;rfl;rfl)|(apply WO.pkF;rfl;rfl)|(apply WO.add;rfl;rfl;omega)|(apply WO.idx;rfl;rfl;omega)|(apply WO.pl;rfl;rfl)|(apply WO.pp;rfl;rfl)
           all_goals first|(exfalso;omega)|exact LIn ⟨he.trans e,_,_,_,rfl⟩
     · repeat' first|apply W.seq|apply SQn|apply W.region|apply WO.nil|apply W.block|apply W.skip|apply BQn|(apply W.condT;rfl)|(apply W.condF;rfl)|(apply WO.sT;rfl)|(apply WO.sU;rfl)|(apply WO.lss;rfl;rfl;all_goals first|(intro _;exfalso;omega)|intro _)|(apply WO.eql;rfl;rfl;all_goals first|(intro _;exfalso;omega)|intro _)|(apply WO.neq;rfl;rfl;all_goals first|(intro _;exfalso;omega)|intro _)|(apply WO.pkF;rfl;rfl)|(apply WO.add;rfl;rfl;omega)|(apply WO.idx;rfl;rfl;omega)|(apply WO.pl;rfl;rfl)|(apply WO.pp;rfl;rfl)
       all_goals first|(exfalso;omega)|exact LIn ⟨he.trans e,_,_,_,rfl⟩
   · rw [decide_eq_false hx,Bool.false_or] at e
     by_cases hl:i+1=s.length
     · rw [decide_eq_true hl,Bool.true_and] at e
       by_cases ho:b=111
       · rw [decide_eq_true ho,Bool.true_or,Bool.true_and] at e
         repeat' first|apply W.seq|apply SQn|apply W.region|apply WO.nil|apply W.block|apply W.skip|apply BQn|(apply W.condT;rfl)|(apply W.condF;rfl)|(apply WO.gT;rfl)|(apply WO.sF;rfl)|(apply WO.lss;rfl;rfl;all_goals first|(intro _;exfalso;omega)|intro _)|(apply WO.eql;rfl;rfl;all_goals first|(intro _;exfalso;omega)|intro _)|(apply WO.neq;rfl;rfl;all_goals first|(intro _;exfalso;omega)|intro _)|(apply WO.pkT;rfl;rfl)|(apply WO.add;rfl;rfl;omega)|(apply WO.idx;rfl;rfl;omega)|(apply WO.pl;rfl;rfl)|(apply WO.pp;rfl;rfl)
         all_goals first|(exfalso;omega)|exact LIn ⟨he.trans e,_,_,_,rfl⟩
       · by_cases hm:b=45
         · rw [decide_eq_true hm,Bool.or_true,Bool.true_and] at e
           repeat' first|apply W.seq|apply SQn|apply W.region|apply WO.nil|apply W.block|apply W.skip|apply BQn|(apply W.condT;rfl)|(apply W.condF;rfl)|(apply WO.gT;rfl)|(apply WO.gF;rfl)|(apply WO.lss;rfl;rfl;all_goals first|(intro _;exfalso;omega)|intro _)|(apply WO.eql;rfl;rfl;all_goals first|(intro _;exfalso;omega)|intro _)|(apply WO.neq;rfl;rfl;all_goals first|(intro _;exfalso;omega)|intro _)|(apply WO.pkT;rfl;rfl)|(apply WO.pkF;rfl;rfl)|(apply WO.add;rfl;rfl;omega)|(apply WO.idx;rfl;rfl;omega)|(apply WO.pl;rfl;rfl)|(apply WO.pp;rfl;rfl)
           all_goals first|(exfalso;omega)|exact LIn ⟨he.trans e,_,_,_,rfl⟩
         · rw [decide_eq_false ho,decide_eq_false hm,Bool.or_false,Bool.false_and] at e
           repeat' first|apply W.seq|apply SQn|apply W.region|apply WO.nil|apply W.block|apply W.ret|apply W.skip|apply SQr|apply BQr|apply LIr|(apply W.condT;rfl)|(apply WO.gT;rfl)|(apply WO.gF;rfl)|(apply WO.lss;rfl;rfl;all_goals first|(intro _;exfalso;omega)|intro _)|(apply WO.eql;rfl;rfl;all_goals first|(intro _;exfalso;omega)|intro _)|(apply WO.neq;rfl;rfl;all_goals first|(intro _;exfalso;omega)|intro _)|(apply WO.pkT;rfl;rfl)|(apply WO.pkF;rfl;rfl)|(apply WO.add;rfl;rfl;omega)|(apply WO.idx;rfl;rfl;omega)|(apply WO.pl;rfl;rfl)|(apply WO.pp;rfl;rfl)
           all_goals first|(exfalso;omega)|exact ⟨.inr rfl,rfl,_,rfl,by rw [he,e];rfl,rfl⟩
     · rw [decide_eq_false hl,Bool.false_and,Bool.false_and] at e
       repeat' first|apply W.seq|apply SQn|apply W.region|apply WO.nil|apply W.block|apply W.ret|apply W.skip|apply SQr|apply BQr|apply LIr|(apply W.condT;rfl)|(apply WO.gT;rfl)|(apply WO.sT;rfl)|(apply WO.sU;rfl)|(apply WO.lss;rfl;rfl;all_goals first|(intro _;exfalso;omega)|intro _)|(apply WO.eql;rfl;rfl;all_goals first|(intro _;exfalso;omega)|intro _)|(apply WO.neq;rfl;rfl;all_goals first|(intro _;exfalso;omega)|intro _)|(apply WO.pkT;rfl;rfl)|(apply WO.pkF;rfl;rfl)|(apply WO.add;rfl;rfl;omega)|(apply WO.idx;rfl;rfl;omega)|(apply WO.pl;rfl;rfl)|(apply WO.pp;rfl;rfl)
       all_goals first|(exfalso;omega)|exact ⟨.inr rfl,rfl,_,rfl,by rw [he,e];rfl,rfl⟩
 · subst hs
   rw [List.drop_length] at he
   unfold b148_0
   repeat' first|apply W.seq|apply SQn|apply W.region|apply WO.nil|apply W.ret|apply W.exit|apply SQe|apply BQe|apply LIe|(apply W.condF;rfl)|(apply WO.lss;rfl;rfl;all_goals first|(intro _;exfalso;omega)|intro _)|(apply WO.pl;rfl;rfl)|(apply WO.pp;rfl;rfl)
   exact ⟨.inr rfl,rfl,_,rfl,by rw [he];rfl,rfl⟩
theorem stateE_drop {n:Nat} {l:List Str} {i:Nat} (h:i<l.length):stateE n (l.drop i)=if 3<n+failN l[i]! ∨ (n+failN l[i]! = 3∧lastB l[i]! ≠ 120)∨(lastB l[i]! = 120∧i+1<l.length) then 19 else stateE (if lastB l[i]! = 111 then 0 else n+failN l[i]!) (l.drop (i+1)):=by
 rw [List.drop_eq_getElem_cons h,getElem!_pos l i h,stateE]
 have:(l.drop (i+1)≠[])↔i+1<l.length:=by rw [Ne,List.drop_eq_nil_iff];omega
 simp only [this]
set_option maxHeartbeats 1000000 in
theorem w96 (hft:M.FT=FT) (c68:∀ (s:Str) h,s.length<1000000→M.ext 68 [.str s] h=some ⟨.bool (isName s),h,[]⟩) (c148:∀ s h,M.ext 148 [.str s] h=some ⟨.bool (shaped s),h,[]⟩)
 (c149:∀ (s:Str) h,s.length<1000000→M.ext 149 [.str s] h=some ⟨.int .i64 (failN s),h,[]⟩) (c150:∀ (s:Str) h,s.length<1000000→M.ext 150 [.str s] h=some ⟨.int .u8 (lastB s),h,[]⟩)
 (c:Card) (hw:c.who.length<1000000) (hH:∀ s∈c.hs,s.length<1000):Run M 96 [.agg (cardC c)] [] ⟨.int .i64 (formE c),[],[]⟩:=by
 have q68:=fun h=>c68 c.who h hw
 refine run_of_W (by rw [hft];exact ft96) (by simp) ?_
 unfold b96
 simp only [enter]
 cases h0:isName c.who with
 | false=>
  rw [h0] at q68
  repeat' first|apply W.seq|apply SQn|apply W.region|apply WO.nil|apply W.ret|apply SQr|(apply W.condT;rfl)|(apply WO.cll;rfl;rfl;first|exact q68 _)|(apply WO.hlv;rfl;rfl;rfl)|(apply WO.hpv;rfl;rfl;rfl)|(apply WO.pl;rfl;rfl)|(apply WO.pp;rfl;rfl)
  all_goals exact ⟨.inr rfl,rfl,_,rfl,by rw [formE,if_pos h0];rfl,rfl⟩
 | true=>
  rw [h0] at q68
  by_cases h1:24<c.hs.length
  · repeat' first|apply W.seq|apply SQn|apply W.region|apply WO.nil|apply W.ret|apply W.skip|apply SQr|(apply W.condT;rfl)|(apply W.condF;rfl)|(apply WO.sF;rfl)|(apply WO.gtr;rfl;rfl;all_goals first|(intro _;exfalso;omega)|intro _)|(apply WO.pkT;rfl;rfl)|(apply WO.cll;rfl;rfl;first|exact q68 _)|(apply WO.hlv;rfl;rfl;rfl)|(apply WO.hpv;rfl;rfl;rfl)|(apply WO.pl;rfl;rfl)|(apply WO.pp;rfl;rfl)
    all_goals exact ⟨.inr rfl,rfl,_,rfl,by rw [formE,if_neg (by simp [h0]),if_pos (.inl h1)];rfl,rfl⟩
  by_cases h2:24<c.off.length
  · repeat' first|apply W.seq|apply SQn|apply W.region|apply WO.nil|apply W.ret|apply W.skip|apply SQr|(apply W.condT;rfl)|(apply W.condF;rfl)|(apply WO.gF;rfl)|(apply WO.gtr;rfl;rfl;all_goals first|(intro _;exfalso;omega)|intro _)|(apply WO.pkF;rfl;rfl)|(apply WO.cll;rfl;rfl;first|exact q68 _)|(apply WO.hlv;rfl;rfl;rfl)|(apply WO.hpv;rfl;rfl;rfl)|(apply WO.pl;rfl;rfl)|(apply WO.pp;rfl;rfl)
    all_goals exact ⟨.inr rfl,rfl,_,rfl,by rw [formE,if_neg (by simp [h0]),if_pos (.inr h2)];rfl,rfl⟩
  have e0:formE c=if c.hs.all shaped=false then 1 else if c.off.all offOk=false then 1 else stateE 0 c.hs:=by
   rw [formE,if_neg (by simp [h0]),if_neg (by omega)]
  rw [e0]
  repeat' first|apply W.seq|apply SQn|apply W.region|apply WO.nil|apply W.block|apply W.skip|(apply W.condF;rfl)|(apply WO.gF;rfl)|(apply WO.gtr;rfl;rfl;all_goals first|(intro _;exfalso;omega)|intro _)|(apply WO.pkF;rfl;rfl)|(apply WO.cll;rfl;rfl;first|exact q68 _)|(apply WO.hlv;rfl;rfl;rfl)|(apply WO.hpv;rfl;rfl;rfl)|(apply WO.pl;rfl;rfl)|(apply WO.pp;rfl;rfl)
  refine W.loopI c.hs.length (fun i s=>c.hs.all shaped=(c.hs.drop i).all shaped∧∃ a4 a5 a6 a7 lo K wr,s=⟨⟨[.agg (cardC c),.ptr 0 0,.int .i64 0,.int .i64 i,a4,a5,a6,a7],lo,K,[]⟩,wr⟩∧K.at 0=some (.cells (cardC c) 167)) (fun i s hi ⟨he,a4,a5,a6,a7,lo,K,wr,hs,hK⟩=>?_) (fun s ⟨he,a4,a5,a6,a7,lo,K,wr,hs,hK⟩=>?_) (Nat.zero_le _) ⟨rfl,_,_,_,_,_,_,_,rfl,rfl⟩
  · subst hs
    have e:=all_drop (p:=shaped) hi
    rw [show c.hs[i]! = c.hs[((i:Int)).toNat]! from rfl] at e
    have q148:=fun h=>c148 c.hs[((i:Int)).toNat]! h
    unfold b96_0
    cases hc:shaped c.hs[((i:Int)).toNat]! with
    | false=>
     rw [hc] at q148 e
     repeat' first|apply W.seq|apply SQn|apply W.region|apply WO.nil|apply W.block|apply W.ret|apply W.skip|apply SQr|apply BQr|apply LIr|(apply W.condT;rfl)|(apply WO.lss;rfl;rfl;all_goals first|(intro _;exfalso;omega)|intro _)|(apply WO.cll;rfl;rfl;first|exact q148 _)|(apply WO.ldK;rfl;exact hK;rfl)|(apply WO.iav;rfl;rfl;omega)|(apply WO.lda;rfl;exact fun _=>rfl;(first|omega|(simp only [List.length_set];omega)|(simp;omega));decide;rfl;case ia=>infer_instance)|(apply WO.pl;rfl;rfl)|(apply WO.pp;rfl;rfl)
     all_goals exact ⟨.inr rfl,rfl,_,rfl,by rw [he,e,Bool.false_and,if_pos rfl];rfl,rfl⟩
    | true=>
     rw [hc] at q148 e
     rw [Bool.true_and] at e
     repeat' first|apply W.seq|apply SQn|apply W.region|apply WO.nil|apply W.block|apply W.skip|apply BQn|(apply W.condT;rfl)|(apply W.condF;rfl)|(apply WO.lss;rfl;rfl;all_goals first|(intro _;exfalso;omega)|intro _)|(apply WO.add;rfl;rfl;omega)|(apply WO.cll;rfl;rfl;first|exact q148 _)|(apply WO.ldK;rfl;exact hK;rfl)|(apply WO.iav;rfl;rfl;omega)|(apply WO.lda;rfl;exact fun _=>rfl;(first|omega|(simp only [List.length_set];omega)|(simp;omega));decide;rfl;case ia=>infer_instance)|(apply WO.pl;rfl;rfl)|(apply WO.pp;rfl;rfl)
     all_goals exact LIn ⟨he.trans e,_,_,_,_,_,_,_,rfl,hK⟩
  · subst hs
    rw [List.drop_length] at he
    rw [he,List.all_nil,if_neg (by decide)]
    unfold b96_0
    repeat' first|apply W.seq|apply SQn|apply W.region|apply WO.nil|apply W.block|apply W.exit|apply SQe|apply BQe|apply LIe|(apply W.condF;rfl)|(apply WO.lss;rfl;rfl;all_goals first|(intro _;exfalso;omega)|intro _)|(apply WO.ldK;rfl;exact hK;rfl)|(apply WO.pl;rfl;rfl)|(apply WO.pp;rfl;rfl)
    refine W.loopI c.off.length (fun i s=>c.off.all offOk=(c.off.drop i).all offOk∧∃ a3 a5 a6 a7 lo K wr,s=⟨⟨[.agg (cardC c),.ptr 0 0,.int .i64 0,a3,.int .i64 i,a5,a6,a7],lo,K,[]⟩,wr⟩∧K.at 0=some (.cells (cardC c) 167)) (fun i s hi ⟨he,a3,a5,a6,a7,lo,K,wr,hs,hK⟩=>?_) (fun s ⟨he,a3,a5,a6,a7,lo,K,wr,hs,hK⟩=>?_) (Nat.zero_le _) ⟨rfl,_,_,_,_,_,_,_,rfl,hK⟩
    · subst hs
      have e:=all_drop (p:=offOk) hi
      rw [show c.off[i]! = c.off[((i:Int)).toNat]! from rfl] at e
      unfold b96_1
      by_cases hO:c.off[((i:Int)).toNat]! = [111]
      · rw [offOk,decide_eq_true (p:=_=sO) hO,Bool.true_or,Bool.true_and] at e
        repeat' first|apply W.seq|apply SQn|apply W.region|apply WO.nil|apply W.block|apply W.skip|apply BQn|(apply W.condT;rfl)|(apply W.condF;rfl)|(apply WO.sT;rfl)|(apply WO.lss;rfl;rfl;all_goals first|(intro _;exfalso;omega)|intro _)|(apply WO.pkF;rfl;rfl)|(apply WO.add;rfl;rfl;omega)|(apply WO.ldK;rfl;exact hK;rfl)|(apply WO.iav;rfl;rfl;omega)|(apply WO.lda;rfl;exact fun _=>rfl;(first|omega|(simp only [List.length_set];omega)|(simp;omega));decide;rfl;case ia=>infer_instance)|(apply WO.sneq;rfl;rfl;all_goals first|(intro h;exact absurd h (by decide))|(intro h;exact absurd rfl h)|(intro h;contradiction)|intro _)|(apply WO.pl;rfl;rfl)|(apply WO.pp;rfl;rfl)
        all_goals first|contradiction|exact LIn ⟨he.trans e,_,_,_,_,_,_,_,rfl,hK⟩
      · by_cases hX:c.off[((i:Int)).toNat]! = [120]
        · rw [offOk,decide_eq_true (p:=_=sX) hX,Bool.or_true,Bool.true_and] at e
          repeat' first|apply W.seq|apply SQn|apply W.region|apply WO.nil|apply W.block|apply W.skip|apply BQn|(apply W.condT;rfl)|(apply W.condF;rfl)|(apply WO.gT;rfl)|(apply WO.lss;rfl;rfl;all_goals first|(intro _;exfalso;omega)|intro _)|(apply WO.pkT;rfl;rfl)|(apply WO.add;rfl;rfl;omega)|(apply WO.ldK;rfl;exact hK;rfl)|(apply WO.iav;rfl;rfl;omega)|(apply WO.lda;rfl;exact fun _=>rfl;(first|omega|(simp only [List.length_set];omega)|(simp;omega));decide;rfl;case ia=>infer_instance)|(apply WO.sneq;rfl;rfl;all_goals first|(intro h;exact absurd h (by decide))|(intro h;exact absurd rfl h)|(intro h;contradiction)|intro _)|(apply WO.pl;rfl;rfl)|(apply WO.pp;rfl;rfl)
          all_goals first|contradiction|exact LIn ⟨he.trans e,_,_,_,_,_,_,_,rfl,hK⟩
        · rw [offOk,decide_eq_false (p:=_=sO) hO,decide_eq_false (p:=_=sX) hX,Bool.or_false,Bool.false_and] at e
          repeat' first|apply W.seq|apply SQn|apply W.region|apply WO.nil|apply W.block|apply W.ret|apply W.skip|apply SQr|apply BQr|apply LIr|(apply W.condT;rfl)|(apply WO.gT;rfl)|(apply WO.lss;rfl;rfl;all_goals first|(intro _;exfalso;omega)|intro _)|(apply WO.pkT;rfl;rfl)|(apply WO.ldK;rfl;exact hK;rfl)|(apply WO.iav;rfl;rfl;omega)|(apply WO.lda;rfl;exact fun _=>rfl;(first|omega|(simp only [List.length_set];omega)|(simp;omega));decide;rfl;case ia=>infer_instance)|(apply WO.sneq;rfl;rfl;all_goals first|(intro h;exact absurd h (by decide))|(intro h;exact absurd rfl h)|(intro h;contradiction)|intro _)|(apply WO.pl;rfl;rfl)|(apply WO.pp;rfl;rfl)
          all_goals first|contradiction|exact ⟨.inr rfl,rfl,_,rfl,by rw [he,e,if_pos rfl];rfl,rfl⟩
    · subst hs
      rw [List.drop_length] at he
      rw [he,List.all_nil,if_neg (by decide)]
      unfold b96_1
      repeat' first|apply W.seq|apply SQn|apply W.region|apply WO.nil|apply W.block|apply W.exit|apply SQe|apply BQe|apply LIe|(apply W.condF;rfl)|(apply WO.lss;rfl;rfl;all_goals first|(intro _;exfalso;omega)|intro _)|(apply WO.ldK;rfl;exact hK;rfl)|(apply WO.pl;rfl;rfl)|(apply WO.pp;rfl;rfl)
      refine W.loopI c.hs.length (fun i s=>∃ n:Nat,stateE 0 c.hs=stateE n (c.hs.drop i)∧n≤3∧∃ a3 a4 a7 lo K wr,s=⟨⟨[.agg (cardC c),.ptr 0 0,.int .i64 0,a3,a4,.int .i64 n,.int .i64 i,a7],lo,K,[]⟩,wr⟩∧K.at 0=some (.cells (cardC c) 167)) (fun i s hi ⟨n,he,hn,a3,a4,a7,lo,K,wr,hs,hK⟩=>?_) (fun s ⟨n,he,hn,a3,a4,a7,lo,K,wr,hs,hK⟩=>?_) (Nat.zero_le _) ⟨0,rfl,by omega,_,_,_,_,_,_,rfl,hK⟩
      · subst hs
        have e:=stateE_drop (n:=n) hi
        rw [show c.hs[i]! = c.hs[((i:Int)).toNat]! from rfl] at e
        have hsl:=hH c.hs[((i:Int)).toNat]! (by rw [Int.toNat_natCast,getElem!_pos c.hs i hi];exact List.getElem_mem hi)
        have q149:=fun h=>c149 c.hs[((i:Int)).toNat]! h (by omega)
        have q150:=fun h=>c150 c.hs[((i:Int)).toNat]! h (by omega)
        have hf:=failN_le c.hs[((i:Int)).toNat]!
        have hlb:=lastB_lt c.hs[((i:Int)).toNat]!
        generalize failN c.hs[((i:Int)).toNat]! = f at *
        generalize lastB c.hs[((i:Int)).toNat]! = b at *
        unfold b96_2
        repeat' first|apply W.seq|apply SQn|apply W.region|apply WO.nil|apply W.block|apply W.ret|apply W.skip|apply SQr|apply BQn|apply BQr|apply LIr|(apply W.condT;rfl)|(apply W.condF;rfl)|(apply WO.gT;rfl)|(apply WO.gF;rfl)|(apply WO.sT;rfl)|(apply WO.sF;rfl)|(apply WO.sU;rfl)|(apply WO.lss;rfl;rfl;all_goals first|(intro _;exfalso;omega)|intro _)|(apply WO.gtr;rfl;rfl;all_goals first|(intro _;exfalso;omega)|intro _)|(apply WO.eql;rfl;rfl;all_goals first|(intro _;exfalso;omega)|intro _)|(apply WO.neq;rfl;rfl;all_goals first|(intro _;exfalso;omega)|intro _)|(apply WO.pkT;rfl;rfl)|(apply WO.pkF;rfl;rfl)|(apply WO.add;rfl;rfl;omega)|(apply WO.cll;rfl;rfl;first|exact q149 _|exact q150 _)|(apply WO.ldK;rfl;exact hK;rfl)|(apply WO.iav;rfl;rfl;omega)|(apply WO.lda;rfl;exact fun _=>rfl;(first|omega|(simp only [List.length_set];omega)|(simp;omega));decide;rfl;case ia=>infer_instance)|(apply WO.pl;rfl;rfl)|(apply WO.pp;rfl;rfl)
        all_goals first
         | (exfalso;omega)
         | (rw [if_pos (by omega)] at e;exact ⟨.inr rfl,rfl,_,rfl,by rw [he,e];rfl,rfl⟩)
         | (rw [if_neg (by omega),if_pos (by omega)] at e;exact LIn ⟨0,he.trans e,by omega,_,_,_,_,_,_,rfl,hK⟩)
         | (rw [if_neg (by omega),if_neg (by omega)] at e;exact LIn ⟨n+f,he.trans e,by omega,_,_,_,_,_,_,rfl,hK⟩)
      · subst hs
        rw [List.drop_length] at he
        unfold b96_2
        repeat' first|apply W.seq|apply SQn|apply W.region|apply WO.nil|apply W.ret|apply W.exit|apply SQe|apply BQe|apply LIe|(apply W.condF;rfl)|(apply WO.lss;rfl;rfl;all_goals first|(intro _;exfalso;omega)|intro _)|(apply WO.ldK;rfl;exact hK;rfl)|(apply WO.pl;rfl;rfl)|(apply WO.pp;rfl;rfl)
        exact ⟨.inr rfl,rfl,_,rfl,by rw [he];rfl,rfl⟩
end Go.Ab.Ch6

/-
  Own work: chapter 6: cards, by the reference: scores.
-/
namespace Go.Ab.Ch6
variable {M:Mach} {cap c1 c2:Option Nat}
theorem w99 (hft:M.FT=FT) (c150:∀ (s:Str) h,s.length<1000000→M.ext 150 [.str s] h=some ⟨.int .u8 (lastB s),h,[]⟩) (c:Card) (hl:c.hs.length<1000000) (hH:∀ s∈c.hs,s.length<1000) :
 Run M 99 [.agg (cardC c)] [] ⟨.int .i64 (bestI c),[],[]⟩:=by
 refine run_of_W (by rw [hft];exact ft99) (by simp) ?_
 unfold b99
 simp only [enter]
 repeat' first|apply W.seq|apply SQn|apply W.region|apply WO.nil|apply W.block|(apply WO.hpv;rfl;rfl;rfl)|(apply WO.pp;rfl;rfl)
 refine W.loopI c.hs.length (fun i s=>∃ b:Int,bestI c=bestG i b (c.hs.drop i)∧∃ lo K wr,s=⟨⟨[.agg (cardC c),.ptr 0 0,.int .i64 0,.int .i64 b,.int .i64 i],lo,K,[]⟩,wr⟩∧K.at 0=some (.cells (cardC c) 167)) (fun i s hi ⟨b,he,lo,K,wr,hs,hK⟩=>?_) (fun s ⟨b,he,lo,K,wr,hs,hK⟩=>?_) (Nat.zero_le _) ⟨-1,rfl,_,_,_,rfl,rfl⟩
 · subst hs
   have e:=bestG_drop (b:=b) hi
   rw [show c.hs[i]! = c.hs[((i:Int)).toNat]! from rfl] at e
   have hsl:=hH c.hs[((i:Int)).toNat]! (by rw [Int.toNat_natCast,getElem!_pos c.hs i hi];exact List.getElem_mem hi)
   have q150:=fun h=>c150 c.hs[((i:Int)).toNat]! h (by omega)
   generalize lastB c.hs[((i:Int)).toNat]! = x at *
   unfold b99_0
   repeat' first|apply W.seq|apply SQn|apply W.region|apply WO.nil|apply W.block|apply W.skip|apply BQn|(apply W.condT;rfl)|(apply W.condF;rfl)|(apply WO.lss;rfl;rfl;all_goals first|(intro _;exfalso;omega)|intro _)|(apply WO.eql;rfl;rfl;all_goals first|(intro _;exfalso;omega)|intro _)|(apply WO.add;rfl;rfl;omega)|(apply WO.cll;rfl;rfl;first|exact q150 _)|(apply WO.ldK;rfl;exact hK;rfl)|(apply WO.iav;rfl;rfl;omega)|(apply WO.lda;rfl;exact fun _=>rfl;(first|omega|(simp only [List.length_set];omega)|(simp;omega));decide;rfl;case ia=>infer_instance)|(apply WO.pl;rfl;rfl)|(apply WO.pp;rfl;rfl)
   · rw [if_pos (by omega)] at e
     exact LIn ⟨_,he.trans e,_,_,_,rfl,hK⟩
   · rw [if_neg (by omega)] at e
     exact LIn ⟨_,he.trans e,_,_,_,rfl,hK⟩
 · subst hs
   rw [List.drop_length,bestG] at he
   unfold b99_0
   repeat' first|apply W.seq|apply SQn|apply W.region|apply WO.nil|apply W.ret|apply W.exit|apply SQe|apply BQe|apply LIe|(apply W.condF;rfl)|(apply WO.lss;rfl;rfl;all_goals first|(intro _;exfalso;omega)|intro _)|(apply WO.ldK;rfl;exact hK;rfl)|(apply WO.pl;rfl;rfl)|(apply WO.pp;rfl;rfl)
   exact ⟨.inr rfl,rfl,_,rfl,by rw [he];rfl,rfl⟩
theorem w158 (hft:M.FT=FT) (c99:∀ (c:Card) h,c.hs.length<1000000→(∀ s∈c.hs,s.length<1000)→M.ext 99 [.agg (cardC c)] h=some ⟨.int .i64 (bestI c),h,[]⟩) (c149:∀ (s:Str) h,s.length<1000000→M.ext 149 [.str s] h=some ⟨.int .i64 (failN s),h,[]⟩)
 (c:Card) (hl:c.hs.length<1000000) (hH:∀ s∈c.hs,s.length<1000):Run M 158 [.agg (cardC c)] [] ⟨.int .i64 (totalN c),[],[]⟩:=by
 obtain ⟨b1,b2⟩:=bestI_lt c
 have q99:=fun h=>c99 c h hl hH
 obtain ⟨n,hn⟩:∃ n:Nat,(n:Int)=bestI c+1:=⟨(bestI c+1).toNat,by omega⟩
 have eT:totalN c=sumF (c.hs.take n):=by rw [totalN,← hn,Int.toNat_natCast]
 rw [eT]
 refine run_of_W (by rw [hft];exact ft158) (by simp) ?_
 unfold b158
 simp only [enter]
 repeat' first|apply W.seq|apply SQn|apply W.region|apply WO.nil|apply W.block|(apply WO.hpv;rfl;rfl;rfl)|(apply WO.pp;rfl;rfl)
 refine W.loopI n (fun i s=>∃ lo K wr,s=⟨⟨[.agg (cardC c),.ptr 0 0,.int .i64 0,.int .i64 (sumF (c.hs.take i)),.int .i64 i],lo,K,[]⟩,wr⟩∧K.at 0=some (.cells (cardC c) 167)) (fun i s hi ⟨lo,K,wr,hs,hK⟩=>?_) (fun s ⟨lo,K,wr,hs,hK⟩=>?_) (Nat.zero_le _) ⟨_,_,_,rfl,rfl⟩
 · subst hs
   have hi2:i<c.hs.length:=by omega
   have e:=sumF_take hi2
   rw [show c.hs[i]! = c.hs[((i:Int)).toNat]! from rfl] at e
   have hsl:=hH c.hs[((i:Int)).toNat]! (by rw [Int.toNat_natCast,getElem!_pos c.hs i hi2];exact List.getElem_mem hi2)
   have q149:=fun h=>c149 c.hs[((i:Int)).toNat]! h (by omega)
   have hf:=failN_le c.hs[((i:Int)).toNat]!
   have hb:sumF (c.hs.take i)≤1000000*1000:=Nat.le_trans (sumF_le (B:=1000) fun s hs=>hH s (List.mem_of_mem_take hs)) (Nat.mul_le_mul_right _ (by rw [List.length_take];omega))
   unfold b158_0
   repeat' first|apply W.seq|apply SQn|apply W.region|apply WO.nil|apply W.block|apply W.skip|apply BQn|(apply W.condT;rfl)|(apply WO.leq;rfl;rfl;all_goals first|(intro _;exfalso;omega)|intro _)|(apply WO.add;rfl;rfl;omega)|(apply WO.cll;rfl;rfl;first|exact q99 _|exact q149 _)|(apply WO.ldK;rfl;exact hK;rfl)|(apply WO.iav;rfl;rfl;omega)|(apply WO.lda;rfl;exact fun _=>rfl;(first|omega|(simp only [List.length_set];omega)|(simp;omega));decide;rfl;case ia=>infer_instance)|(apply WO.pl;rfl;rfl)|(apply WO.pp;rfl;rfl)
   exact LIn ⟨_,_,_,by rw [e];rfl,hK⟩
 · subst hs
   unfold b158_0
   repeat' first|apply W.seq|apply SQn|apply W.region|apply WO.nil|apply W.ret|apply W.exit|apply SQe|apply BQe|apply LIe|(apply W.condF;rfl)|(apply WO.leq;rfl;rfl;all_goals first|(intro _;exfalso;omega)|intro _)|(apply WO.cll;rfl;rfl;first|exact q99 _)|(apply WO.ldK;rfl;exact hK;rfl)|(apply WO.pl;rfl;rfl)|(apply WO.pp;rfl;rfl)
   exact ⟨.inr rfl,rfl,_,rfl,rfl,rfl⟩
theorem w157 (hft:M.FT=FT) (a b:Int):Run M 157 [.int .i64 a,.int .i64 b] [] ⟨.int .i64 (cmpR a b),[],[]⟩:=by
 refine run_of_W (by rw [hft];exact ft157) (by simp) ?_
 unfold b157
 simp only [enter]
 repeat' first|apply W.seq|apply SQn|apply W.region|apply WO.nil|apply W.ret|apply W.skip|apply SQr|(apply W.condT;rfl)|(apply W.condF;rfl)|(apply WO.lss;rfl;rfl;all_goals first|(intro _;exfalso;omega)|intro _)|(apply WO.gtr;rfl;rfl;all_goals first|(intro _;exfalso;omega)|intro _)|(apply WO.pl;rfl;rfl)|(apply WO.pp;rfl;rfl)
 all_goals first
  | exact ⟨.inr rfl,rfl,_,rfl,by rw [cmpR,if_pos (by omega)];rfl,rfl⟩
  | exact ⟨.inr rfl,rfl,_,rfl,by rw [cmpR,if_neg (by omega),if_pos (by omega)];rfl,rfl⟩
  | exact ⟨.inr rfl,rfl,_,rfl,by rw [cmpR,if_neg (by omega),if_neg (by omega)];rfl,rfl⟩
theorem w101 (hft:M.FT=FT) (l:List Int) (n:Int) (hl:l.length<1000000):Run M 101 [.vs (ints l) l.length cap,.int .i64 n] [] ⟨.bool (decide (n∈l)),[],[]⟩:=by
 refine run_of_W (by rw [hft];exact ft101) (by simp) ?_
 unfold b101
 simp only [enter]
 repeat' first|apply W.seq|apply SQn|apply W.region|apply WO.nil|apply W.block|(apply WO.pp;rfl;rfl)
 refine W.loopI l.length (fun i s=>(∀ k,k<i→l[k]! ≠ n)∧∃ lo wr,s=⟨⟨[.vs (ints l) l.length cap,.int .i64 n,.bool false,.int .i64 i],lo,[],[]⟩,wr⟩) (fun i s hi ⟨he,lo,wr,hs⟩=>?_) (fun s ⟨he,lo,wr,hs⟩=>?_) (Nat.zero_le _) ⟨fun k hk=>absurd hk (Nat.not_lt_zero _),_,_,rfl⟩
 · subst hs
   unfold b101_0
   repeat' first|apply W.seq|apply SQn|apply W.region|apply WO.nil|apply W.block|apply W.ret|apply W.skip|apply SQr|apply BQn|apply BQr|apply LIr|(apply W.condT;rfl)|(apply W.condF;rfl)|(apply WO.lss;rfl;rfl;all_goals first|(intro _;exfalso;omega)|intro _)|(apply WO.eql;rfl;rfl;all_goals first|(intro _;exfalso;omega)|intro _)|(apply WO.add;rfl;rfl;omega)|(apply WO.iav;rfl;rfl;omega)|(apply WO.lda;rfl;exact fun _=>rfl;(first|omega|(simp only [List.length_set];omega)|(simp;omega));decide;rfl;case ia=>infer_instance)|(apply WO.pl;rfl;rfl)|(apply WO.pp;rfl;rfl)
   · rename_i h
     refine ⟨.inr rfl,rfl,_,rfl,?_,rfl⟩
     have hm:n∈l:=by rw [← h,Int.toNat_natCast,getElem!_pos l i hi];exact List.getElem_mem hi
     rw [decide_eq_true hm];rfl
   · rename_i h
     exact LIn ⟨fun k hk=>by
      rcases Nat.lt_or_ge k i with h'|h'
      · exact he k h'
      · obtain rfl:k=i:=by omega
        exact h,_,_,rfl⟩
 · subst hs
   unfold b101_0
   repeat' first|apply W.seq|apply SQn|apply W.region|apply WO.nil|apply W.ret|apply W.exit|apply SQe|apply BQe|apply LIe|(apply W.condF;rfl)|(apply WO.lss;rfl;rfl;all_goals first|(intro _;exfalso;omega)|intro _)|(apply WO.pl;rfl;rfl)|(apply WO.pp;rfl;rfl)
   refine ⟨.inr rfl,rfl,_,rfl,?_,rfl⟩
   have hm:n∉l:=fun hm=>by
    obtain ⟨k,hk,rfl⟩:=List.getElem_of_mem hm
    exact he k hk (getElem!_pos l k hk)
   rw [decide_eq_false hm];rfl
theorem w159 (hft:M.FT=FT) (c:Card) (i:Nat) (hi:i<1000000):Run M 159 [.agg (cardC c),.int .i64 i] [] ⟨.int .i64 (notedI c i),[],[]⟩:=by
 refine run_of_W (by rw [hft];exact ft159) (by simp) ?_
 unfold b159
 simp only [enter]
 by_cases h:c.off.length≤i
 · repeat' first|apply W.seq|apply SQn|apply W.region|apply WO.nil|apply W.ret|apply SQr|(apply W.condT;rfl)|(apply WO.geq;rfl;rfl;all_goals first|(intro _;exfalso;omega)|intro _)|(apply WO.hlv;rfl;rfl;rfl)|(apply WO.hpv;rfl;rfl;rfl)|(apply WO.pl;rfl;rfl)|(apply WO.pp;rfl;rfl)
   all_goals first|contradiction|exact ⟨.inr rfl,rfl,_,rfl,by rw [notedI,if_pos h];rfl,rfl⟩
 · by_cases hO:c.off[((i:Int)).toNat]! = [111]
   · repeat' first|apply W.seq|apply SQn|apply W.region|apply WO.nil|apply W.ret|apply W.skip|apply SQr|(apply W.condT;rfl)|(apply W.condF;rfl)|(apply WO.geq;rfl;rfl;all_goals first|(intro _;exfalso;omega)|intro _)|(apply WO.iav;rfl;rfl;omega)|(apply WO.lda;rfl;exact fun _=>rfl;(first|omega|(simp only [List.length_set];omega)|(simp;omega));decide;rfl;case ia=>infer_instance)|(apply WO.seql;rfl;rfl;all_goals first|(intro h;exact absurd h (by decide))|(intro h;exact absurd rfl h)|(intro h;contradiction)|intro _)|(apply WO.hlv;rfl;rfl;rfl)|(apply WO.hpv;rfl;rfl;rfl)|(apply WO.pl;rfl;rfl)|(apply WO.pp;rfl;rfl)
     all_goals first|contradiction|exact ⟨.inr rfl,rfl,_,rfl,by rw [notedI,if_neg h,if_pos (show c.off[i]! = sO from hO)];rfl,rfl⟩
   · repeat' first|apply W.seq|apply SQn|apply W.region|apply WO.nil|apply W.ret|apply W.skip|(apply W.condF;rfl)|(apply WO.geq;rfl;rfl;all_goals first|(intro _;exfalso;omega)|intro _)|(apply WO.iav;rfl;rfl;omega)|(apply WO.lda;rfl;exact fun _=>rfl;(first|omega|(simp only [List.length_set];omega)|(simp;omega));decide;rfl;case ia=>infer_instance)|(apply WO.seql;rfl;rfl;all_goals first|(intro h;exact absurd h (by decide))|(intro h;exact absurd rfl h)|(intro h;contradiction)|intro _)|(apply WO.hlv;rfl;rfl;rfl)|(apply WO.hpv;rfl;rfl;rfl)|(apply WO.pl;rfl;rfl)|(apply WO.pp;rfl;rfl)
     all_goals first|contradiction|exact ⟨.inr rfl,rfl,_,rfl,by rw [notedI,if_neg h,if_neg (show ¬ c.off[i]! = sO from hO)];rfl,rfl⟩
end Go.Ab.Ch6

/-
  Own work: chapter 6: cards, by the reference: who is better, who is first.
-/
namespace Go.Ab.Ch6
open Go.Ab.Sort
variable {M:Mach} {cap c1 c2:Option Nat}
def okC (c:Card):Prop:=c.who.length<1000∧c.hs.length<1000∧c.off.length<1000∧(∀ s∈c.hs,s.length<1000)∧∀ s∈c.off,s.length<1000
structure CSt (M:Mach):Prop where
 ft:M.FT=FT
 c99:∀ (c:Card) h,okC c→M.ext 99 [.agg (cardC c)] h=some ⟨.int .i64 (bestI c),h,[]⟩
 c149:∀ (s:Str) h,s.length<1000000→M.ext 149 [.str s] h=some ⟨.int .i64 (failN s),h,[]⟩
 c157:∀ a b h,M.ext 157 [.int .i64 a,.int .i64 b] h=some ⟨.int .i64 (cmpR a b),h,[]⟩
 c158:∀ (c:Card) h,okC c→M.ext 158 [.agg (cardC c)] h=some ⟨.int .i64 (totalN c),h,[]⟩
theorem str_get {l:List Str} {B:Nat} (h:∀ s∈l,s.length<B) {i:Nat} (hi:i<l.length):(l[i]!).length<B:=h _ (by rw [getElem!_pos l i hi];exact List.getElem_mem hi)
set_option maxHeartbeats 1000000 in
theorem w100 (C:CSt M) (a b:Card) (ha:okC a) (hb:okC b) (pa:0≤bestI a) (pb:0≤bestI b):Run M 100 [.agg (cardC a),.agg (cardC b)] [] ⟨.int .i64 (higherI a b),[],[]⟩:=by
 have la:=(bestI_lt a).2
 have lb:=(bestI_lt b).2
 have q99:=fun h=>C.c99 a h ha
 have q99':=fun h=>C.c99 b h hb
 have q149:=fun h=>C.c149 a.hs[(bestI a).toNat]! h (by have:=str_get ha.2.2.2.1 (i:=(bestI a).toNat) (by omega);omega)
 have q149':=fun h=>C.c149 b.hs[(bestI b).toNat]! h (by have:=str_get hb.2.2.2.1 (i:=(bestI b).toNat) (by omega);omega)
 have q158:=fun h=>C.c158 a h ha
 have q158':=fun h=>C.c158 b h hb
 have q157:=C.c157
 refine run_of_W (by rw [C.ft];exact ft100) (by simp) ?_
 unfold b100
 simp only [enter]
 by_cases h1:bestI a=bestI b
 · have e1:higherI a b=if failN a.hs[(bestI a).toNat]! ≠ failN b.hs[(bestI b).toNat]! then cmpR (failN b.hs[(bestI b).toNat]!) (failN a.hs[(bestI a).toNat]!) else cmpR (totalN b) (totalN a):=by
    rw [higherI,if_neg (fun h=>h h1)]
   by_cases h2:failN a.hs[(bestI a).toNat]! = failN b.hs[(bestI b).toNat]!
   · rw [if_neg (fun h=>h h2)] at e1
     rw [e1]
     repeat' first|(apply WD.cl0;rfl;rfl;(first|(simp only [List.nil_append,List.cons_append];rfl)|rfl);first|exact q99 _|exact q99' _|exact q149 _|exact q149' _|exact q158 _|exact q158' _|exact q157 _ _ _)|apply W.seq|apply SQn|apply W.region|apply WO.nil|apply W.ret|apply W.skip|apply W.draw|apply WD.nil|(apply WD.pure1;rfl)|(apply WD.load1;rfl;rfl;(first|(simp only [List.nil_append,List.cons_append];rfl)|rfl))|(apply W.condF;rfl)|(apply WO.neq;rfl;rfl;all_goals first|(intro _;exfalso;omega)|intro _)|(apply WO.iav;rfl;rfl;omega)|(apply WO.lda;rfl;exact fun _=>rfl;(first|omega|(simp only [List.length_set];omega)|(simp;omega));decide;rfl;case ia=>infer_instance)|(apply WO.hlv;rfl;rfl;rfl)|(apply WO.hpv;rfl;rfl;rfl)|(apply WO.pl;rfl;rfl)|(apply WO.pp;rfl;rfl)
     all_goals first|contradiction|(exfalso;omega)|exact ⟨.inr rfl,rfl,_,rfl,rfl,rfl⟩
   · rw [if_pos h2] at e1
     rw [e1]
     repeat' first|(apply WD.cl0;rfl;rfl;(first|(simp only [List.nil_append,List.cons_append];rfl)|rfl);first|exact q99 _|exact q99' _|exact q149 _|exact q149' _|exact q158 _|exact q158' _|exact q157 _ _ _)|apply W.seq|apply SQn|apply W.region|apply WO.nil|apply W.ret|apply W.skip|apply SQr|apply W.draw|apply WD.nil|(apply WD.pure1;rfl)|(apply WD.load1;rfl;rfl;(first|(simp only [List.nil_append,List.cons_append];rfl)|rfl))|(apply W.condT;rfl)|(apply W.condF;rfl)|(apply WO.neq;rfl;rfl;all_goals first|(intro _;exfalso;omega)|intro _)|(apply WO.iav;rfl;rfl;omega)|(apply WO.lda;rfl;exact fun _=>rfl;(first|omega|(simp only [List.length_set];omega)|(simp;omega));decide;rfl;case ia=>infer_instance)|(apply WO.hlv;rfl;rfl;rfl)|(apply WO.hpv;rfl;rfl;rfl)|(apply WO.pl;rfl;rfl)|(apply WO.pp;rfl;rfl)
     all_goals first|contradiction|(exfalso;omega)|exact ⟨.inr rfl,rfl,_,rfl,rfl,rfl⟩
 · have e1:higherI a b=cmpR (bestI a) (bestI b):=by rw [higherI,if_pos h1]
   rw [e1]
   repeat' first|(apply WO.cll;rfl;rfl;first|exact q99 _|exact q99' _|exact q149 _|exact q149' _|exact q158 _|exact q158' _|exact q157 _ _ _)|(apply WD.cl0;rfl;rfl;(first|(simp only [List.nil_append,List.cons_append];rfl)|rfl);first|exact q99 _|exact q99' _|exact q149 _|exact q149' _|exact q158 _|exact q158' _|exact q157 _ _ _)|apply W.seq|apply SQn|apply W.region|apply WO.nil|apply W.ret|apply SQr|apply W.draw|apply WD.nil|(apply WD.pure1;rfl)|(apply WD.load1;rfl;rfl;(first|(simp only [List.nil_append,List.cons_append];rfl)|rfl))|(apply W.condT;rfl)|(apply WO.neq;rfl;rfl;all_goals first|(intro _;exfalso;omega)|intro _)|(apply WO.hlv;rfl;rfl;rfl)|(apply WO.hpv;rfl;rfl;rfl)|(apply WO.pl;rfl;rfl)|(apply WO.pp;rfl;rfl)
   all_goals first|contradiction|(exfalso;omega)|exact ⟨.inr rfl,rfl,_,rfl,rfl,rfl⟩
end Go.Ab.Ch6

/-
  Own work: chapter 6: cards, by the reference: the first ones, the jump-off.
-/
namespace Go.Ab.Ch6
open Go.Ab.Sort
variable {M:Mach} {cap c1 c2:Option Nat}
abbrev cardsC (l:List Card):List AV:=arr cardC l
theorem card_get {l:List Card} (h:∀ c∈l,okC c) {i:Nat} (hi:i<l.length):okC l[i]! := h _ (by rw [getElem!_pos l i hi];exact List.getElem_mem hi)
def firstTo (l:List Card) (c:Card) (k:Nat):Bool:=decide (0≤bestI c) && (l.take k).all fun x=>!worse c x
theorem firstTo_succ {l:List Card} {c:Card} {k:Nat} (h:k<l.length):firstTo l c (k+1)=(firstTo l c k && !worse c l[k]!):=by
 rw [firstTo,firstTo,take_snoc' h,List.all_append,List.all_cons,List.all_nil,Bool.and_true,Bool.and_assoc]
theorem firstTo_all {l:List Card} {c:Card}:firstTo l c l.length=isFirst l c:=by rw [firstTo,List.take_length,isFirst]
theorem firstTo_best {l:List Card} {c:Card} {k:Nat} (h:firstTo l c k=true):0≤bestI c:=by
 rw [firstTo,Bool.and_eq_true,decide_eq_true_eq] at h
 exact h.1
theorem firsts_succ {l:List Card} {i:Nat}:(numsTo (i+1)).filter (fun i=>isFirst l l[i.toNat]!)=(numsTo i).filter (fun i=>isFirst l l[i.toNat]!)++if isFirst l l[((i:Int)).toNat]! = true then [(i:Int)] else []:=by
 rw [numsTo_succ,List.filter_append,List.filter_cons,List.filter_nil]
structure CFs (M:Mach):Prop where
 ft:M.FT=FT
 c99:∀ (c:Card) h,okC c→M.ext 99 [.agg (cardC c)] h=some ⟨.int .i64 (bestI c),h,[]⟩
 c100:∀ (a b:Card) h,okC a→okC b→0≤bestI a→0≤bestI b→M.ext 100 [.agg (cardC a),.agg (cardC b)] h=some ⟨.int .i64 (higherI a b),h,[]⟩
set_option maxHeartbeats 1000000 in
theorem w98 (C:CFs M) (l:List Card) (hl:l.length<1000) (hL:∀ c∈l,okC c):∃ v hh,FrN hh v (.vs (ints (firstsL l)) (firstsL l).length none)∧Run M 98 [.vs (cardsC l) l.length cap] [] ⟨v,hh,[]⟩:=by
 refine run_ofE (P:=fun v hh=>FrN hh v (.vs (ints (firstsL l)) (firstsL l).length none)) (by rw [C.ft];exact ft98) (by simp) ?_
 unfold b98
 simp only [enter]
 repeat' first|apply W.seq|apply SQn|apply W.region|apply WO.nil|apply W.block|(apply WO.pp;rfl;rfl)
 refine W.loopI l.length (fun i s=>∃ o a4 a5 lo K wr,s=⟨⟨[.vs (cardsC l) l.length cap,.nilsl,o,.int .i64 i,a4,a5],lo,K,[]⟩,wr⟩∧OutE inC 1 3 K o ((numsTo i).filter fun i=>isFirst l l[i.toNat]!) []) (fun i s hi ⟨o,a4,a5,lo,K,wr,hs,ho⟩=>?_) (fun s ⟨o,a4,a5,lo,K,wr,hs,ho⟩=>?_) (Nat.zero_le _) ⟨_,_,_,_,_,_,rfl,.ofNil⟩
 · subst hs
   have q99:=fun h=>C.c99 l[((i:Int)).toNat]! h (card_get hL hi)
   have e:=firsts_succ (l:=l) (i:=i)
   obtain ⟨c,hc⟩:∃ c,c=l[((i:Int)).toNat]! := ⟨_,rfl⟩
   have okc:okC c:=by rw [hc];exact card_get hL hi
   have inner:∀ lo K wr,OutE inC 1 3 K o ((numsTo i).filter fun i=>isFirst l l[i.toNat]!) []→∀ {Q:Ex→StW→Prop},(∀ lo wr,Q (.exit 2) ⟨⟨[.vs (cardsC l) l.length cap,.nilsl,o,.int .i64 i,.bool (isFirst l c),.int .i64 l.length],lo,K,[]⟩,wr⟩) →
    W M (.loop b98_0) ⟨⟨[.vs (cardsC l) l.length cap,.nilsl,o,.int .i64 i,.bool (decide (0≤bestI c)),.int .i64 0],lo,K,[]⟩,wr⟩ Q:=fun lo K wr ho Q hQ=>by
    refine W.loopI l.length (fun k s=>∃ lo wr,s=⟨⟨[.vs (cardsC l) l.length cap,.nilsl,o,.int .i64 i,.bool (firstTo l c k),.int .i64 k],lo,K,[]⟩,wr⟩) (fun k s hk ⟨lo,wr,hs⟩=>?_) (fun s ⟨lo,wr,hs⟩=>?_) (Nat.zero_le _) ⟨_,_,by rw [firstTo,List.take_zero,List.all_nil,Bool.and_true];rfl⟩
    · subst hs
      have es:=firstTo_succ (c:=c) hk
      rw [show l[k]! = l[((k:Int)).toNat]! from rfl] at es
      have okk:okC l[((k:Int)).toNat]! := card_get hL hk
      have q99k:=fun h=>C.c99 l[((k:Int)).toNat]! h okk
      unfold b98_0
      cases hB:firstTo l c k with
      | false=>
       rw [hB,Bool.false_and] at es
       repeat' first|apply W.seq|apply SQn|apply W.region|apply WO.nil|apply W.block|apply W.skip|apply BQn|apply W.draw|apply WD.nil|(apply WD.sT;rfl)|(apply WD.pure1;rfl)|(apply W.condT;rfl)|(apply W.condF;rfl)|(apply WO.lss;rfl;rfl;all_goals first|(intro _;exfalso;omega)|intro _)|(apply WO.pkF;rfl;rfl)|(apply WO.add;rfl;rfl;omega)|(apply WO.pl;rfl;rfl)|(apply WO.pp;rfl;rfl)
       all_goals exact LIn ⟨_,_,by rw [es];rfl⟩
      | true=>
       rw [hB,Bool.true_and] at es
       have bc:=firstTo_best hB
       by_cases hb:0≤bestI l[((k:Int)).toNat]!
       · have q100:=fun h=>C.c100 l[((k:Int)).toNat]! c h okk okc hb bc
         rw [hc] at q100
         by_cases hw:0<higherI l[((k:Int)).toNat]! c
         · have:worse c l[((k:Int)).toNat]! = true:=by rw [worse,decide_eq_true hb,decide_eq_true hw];rfl
           rw [this] at es
           have hw':0<higherI l[((k:Int)).toNat]! l[((i:Int)).toNat]! := by rw [← hc];exact hw
           repeat' first|(apply WD.cl0;rfl;rfl;(first|(simp only [List.nil_append,List.cons_append];rfl)|rfl);first|exact q99k _|exact q100 _)|apply W.seq|apply SQn|apply W.region|apply WO.nil|apply W.block|apply W.skip|apply BQn|apply W.draw|apply WD.nil|(apply WD.gT;rfl)|(apply WD.pure1;rfl)|(apply WD.load1;rfl;rfl;(first|(simp only [List.nil_append,List.cons_append];rfl)|rfl))|(apply W.condT;rfl)|(apply WO.lss;rfl;rfl;all_goals first|(intro _;exfalso;omega)|intro _)|(apply WO.gtr;rfl;rfl;all_goals first|(intro _;exfalso;omega)|intro _)|(apply WO.geq;rfl;rfl;all_goals first|(intro _;exfalso;omega)|intro _)|(apply WO.pkT;rfl;rfl)|(apply WO.add;rfl;rfl;omega)|(apply WO.iav;rfl;rfl;omega)|(apply WO.lda;rfl;exact fun _=>rfl;(first|omega|(simp only [List.length_set];omega)|(simp;omega));decide;rfl;case ia=>infer_instance)|(apply WO.pl;rfl;rfl)|(apply WO.pp;rfl;rfl)
           all_goals first|(exfalso;omega)|exact LIn ⟨_,_,by rw [es];rfl⟩
         · have:worse c l[((k:Int)).toNat]! = false:=by rw [worse,decide_eq_false hw,Bool.and_false]
           rw [this] at es
           have hw':¬ 0<higherI l[((k:Int)).toNat]! l[((i:Int)).toNat]! := by rw [← hc];exact hw
           repeat' first|(apply WD.cl0;rfl;rfl;(first|(simp only [List.nil_append,List.cons_append];rfl)|rfl);first|exact q99k _|exact q100 _)|apply W.seq|apply SQn|apply W.region|apply WO.nil|apply W.block|apply W.skip|apply BQn|apply W.draw|apply WD.nil|(apply WD.gT;rfl)|(apply WD.pure1;rfl)|(apply WD.load1;rfl;rfl;(first|(simp only [List.nil_append,List.cons_append];rfl)|rfl))|(apply W.condT;rfl)|(apply W.condF;rfl)|(apply WO.lss;rfl;rfl;all_goals first|(intro _;exfalso;omega)|intro _)|(apply WO.gtr;rfl;rfl;all_goals first|(intro _;exfalso;omega)|intro _)|(apply WO.geq;rfl;rfl;all_goals first|(intro _;exfalso;omega)|intro _)|(apply WO.pkT;rfl;rfl)|(apply WO.add;rfl;rfl;omega)|(apply WO.iav;rfl;rfl;omega)|(apply WO.lda;rfl;exact fun _=>rfl;(first|omega|(simp only [List.length_set];omega)|(simp;omega));decide;rfl;case ia=>infer_instance)|(apply WO.pl;rfl;rfl)|(apply WO.pp;rfl;rfl)
           all_goals first|(exfalso;omega)|exact LIn ⟨_,_,by rw [es];rfl⟩
       · have:worse c l[((k:Int)).toNat]! = false:=by rw [worse,decide_eq_false hb,Bool.false_and]
         rw [this] at es
         repeat' first|(apply WD.cl0;rfl;rfl;(first|(simp only [List.nil_append,List.cons_append];rfl)|rfl);first|exact q99k _)|apply W.seq|apply SQn|apply W.region|apply WO.nil|apply W.block|apply W.skip|apply BQn|apply W.draw|apply WD.nil|(apply WD.gT;rfl)|(apply WD.sT;rfl)|(apply WD.pure1;rfl)|(apply WD.load1;rfl;rfl;(first|(simp only [List.nil_append,List.cons_append];rfl)|rfl))|(apply W.condT;rfl)|(apply W.condF;rfl)|(apply WO.lss;rfl;rfl;all_goals first|(intro _;exfalso;omega)|intro _)|(apply WO.geq;rfl;rfl;all_goals first|(intro _;exfalso;omega)|intro _)|(apply WO.pkT;rfl;rfl)|(apply WO.pkF;rfl;rfl)|(apply WO.add;rfl;rfl;omega)|(apply WO.iav;rfl;rfl;omega)|(apply WO.lda;rfl;exact fun _=>rfl;(first|omega|(simp only [List.length_set];omega)|(simp;omega));decide;rfl;case ia=>infer_instance)|(apply WO.pl;rfl;rfl)|(apply WO.pp;rfl;rfl)
         all_goals first|(exfalso;omega)|exact LIn ⟨_,_,by rw [es];rfl⟩
    · subst hs
      rw [firstTo_all]
      unfold b98_0
      repeat' first|apply W.seq|apply SQn|apply W.region|apply WO.nil|apply W.exit|apply SQe|apply LIe|(apply W.condF;rfl)|(apply WO.lss;rfl;rfl;all_goals first|(intro _;exfalso;omega)|intro _)|(apply WO.pl;rfl;rfl)
      exact hQ _ _
   rw [← hc] at e
   have room:(((numsTo i).filter fun i=>isFirst l l[i.toNat]!).length+1)*8≤roomLimit:=by
    have:((numsTo i).filter fun i=>isFirst l l[i.toNat]!).length≤i:=Nat.le_trans (List.length_filter_le _ _) (by rw [numsTo_length];exact Nat.le_refl _)
    unfold roomLimit;omega
   unfold b98_1
   by_cases pb:0≤bestI c
   · have pb':0≤bestI l[((i:Int)).toNat]! := by rw [← hc];exact pb
     rw [decide_eq_true pb] at inner
     repeat' first|apply W.seq|apply SQn|apply W.region|apply WO.nil|apply W.block|apply W.skip|(apply W.condT;rfl)|(apply WO.lss;rfl;rfl;all_goals first|(intro _;exfalso;omega)|intro _)|(apply WO.geq;rfl;rfl;all_goals first|(intro _;exfalso;omega)|intro _)|(apply WO.cll;rfl;rfl;first|exact q99 _)|(apply WO.iav;rfl;rfl;omega)|(apply WO.lda;rfl;exact fun _=>rfl;(first|omega|(simp only [List.length_set];omega)|(simp;omega));decide;rfl;case ia=>infer_instance)|(apply WO.pl;rfl;rfl)|(apply WO.pp;rfl;rfl)
     all_goals first|(exfalso;omega)|skip
     refine inner _ _ _ ho (fun lo wr=>?_)
     cases hF:isFirst l c with
     | false=>
      rw [hF,if_neg (by decide),List.append_nil] at e
      repeat' first|apply W.seq|apply SQn|apply W.region|apply WO.nil|apply W.skip|apply BQn|apply BQe|(apply W.condF;rfl)|(apply WO.add;rfl;rfl;omega)|(apply WO.pl;rfl;rfl)|(apply WO.pp;rfl;rfl)
      exact LIn ⟨_,_,_,_,_,_,rfl,by rw [e];exact ho⟩
     | true=>
      rw [hF,if_pos rfl] at e
      repeat' first|apply W.seq|apply SQn|apply W.region|apply WO.nil|apply BQe|(apply W.condT;rfl)|(apply WO.hlv;rfl;rfl;rfl)|(apply WO.pl;rfl;rfl)
      refine OutE.app (f:=inC) (m:=[(i:Int)]) (S:=[]) (fun _=>rfl) (fun _=>rfl) (by decide) (ho.grow [_]) (by simp) rfl rfl (Sl.ofAt (f:=inC) (esz:=1) (l:=[(i:Int)]) (e:=3) (fun _=>rfl) at_new rfl) room (fun H w' o' ho' hk hlen=>?_)
      repeat' first|apply SQn|apply W.region|apply WO.nil|apply BQn|(apply WO.add;rfl;rfl;omega)|(apply WO.pl;rfl;rfl)|(apply WO.pp;rfl;rfl)
      exact LIn ⟨_,_,_,_,_,_,rfl,by rw [e];exact ho'⟩
   · have pb':¬ 0≤bestI l[((i:Int)).toNat]! := by rw [← hc];exact pb
     rw [decide_eq_false pb] at inner
     have hF:isFirst l c=false:=by rw [isFirst,decide_eq_false pb,Bool.false_and]
     rw [hF] at inner
     rw [hF,if_neg (by decide),List.append_nil] at e
     repeat' first|apply W.seq|apply SQn|apply W.region|apply WO.nil|apply W.block|apply W.skip|(apply W.condT;rfl)|(apply WO.lss;rfl;rfl;all_goals first|(intro _;exfalso;omega)|intro _)|(apply WO.geq;rfl;rfl;all_goals first|(intro _;exfalso;omega)|intro _)|(apply WO.cll;rfl;rfl;first|exact q99 _)|(apply WO.iav;rfl;rfl;omega)|(apply WO.lda;rfl;exact fun _=>rfl;(first|omega|(simp only [List.length_set];omega)|(simp;omega));decide;rfl;case ia=>infer_instance)|(apply WO.pl;rfl;rfl)|(apply WO.pp;rfl;rfl)
     all_goals first|(exfalso;omega)|skip
     refine inner _ _ _ ho (fun lo wr=>?_)
     repeat' first|apply W.seq|apply SQn|apply W.region|apply WO.nil|apply W.skip|apply BQn|apply BQe|(apply W.condF;rfl)|(apply WO.add;rfl;rfl;omega)|(apply WO.pl;rfl;rfl)|(apply WO.pp;rfl;rfl)
     exact LIn ⟨_,_,_,_,_,_,rfl,by rw [e];exact ho⟩
 · subst hs
   unfold b98_1
   repeat' first|apply W.seq|apply SQn|apply W.region|apply WO.nil|apply W.ret|apply W.exit|apply SQe|apply BQe|apply LIe|(apply W.condF;rfl)|(apply WO.lss;rfl;rfl;all_goals first|(intro _;exfalso;omega)|intro _)|(apply WO.pl;rfl;rfl)|(apply WO.pp;rfl;rfl)
   exact ⟨.inr rfl,rfl,_,rfl,ho.finN (fun _=>rfl) (fun _=>rfl) (fun _=>rfl)⟩
end Go.Ab.Ch6

/-
  Own work: chapter 6: cards, by the reference: the jump-off, short cards, the error of cards.
-/
namespace Go.Ab.Ch6
open Go.Ab.Sort
variable {M:Mach} {cap c1 c2:Option Nat}
theorem offG_step {a b:Card} {n i:Nat} (h:i<n):offG a b (n-i) i=if notedI a i≠notedI b i then cmpR (notedI a i) (notedI b i) else offG a b (n-(i+1)) (i+1):=by
 rw [show n-i=(n-(i+1))+1 by omega,offG]
set_option maxHeartbeats 1000000 in
theorem w102 (hft:M.FT=FT) (c159:∀ (c:Card) (i:Nat) h,i<1000000→M.ext 159 [.agg (cardC c),.int .i64 i] h=some ⟨.int .i64 (notedI c i),h,[]⟩) (c157:∀ a b h,M.ext 157 [.int .i64 a,.int .i64 b] h=some ⟨.int .i64 (cmpR a b),h,[]⟩)
 (a b:Card) (ha:a.off.length<1000) (hb:b.off.length<1000):Run M 102 [.agg (cardC a),.agg (cardC b)] [] ⟨.int .i64 (offI a b),[],[]⟩:=by
 refine run_of_W (by rw [hft];exact ft102) (by simp) ?_
 unfold b102
 simp only [enter]
 repeat' first|apply W.seq|apply SQn|apply W.region|apply WO.nil|apply W.block|(apply WO.hpv;rfl;rfl;rfl)|(apply WO.pp;rfl;rfl)
 obtain ⟨n,hn⟩:∃ n,n=max a.off.length b.off.length:=⟨_,rfl⟩
 refine W.loopI n (fun i s=>offI a b=offG a b (n-i) i∧∃ a6 a7 lo K wr,s=⟨⟨[.agg (cardC a),.agg (cardC b),.ptr 0 0,.ptr 1 0,.int .i64 0,.int .i64 i,a6,a7],lo,K,[]⟩,wr⟩∧K.at 0=some (.cells (cardC a) 167)∧K.at 1=some (.cells (cardC b) 167)) (fun i s hi ⟨he,a6,a7,lo,K,wr,hs,k0,k1⟩=>?_) (fun s ⟨he,a6,a7,lo,K,wr,hs,k0,k1⟩=>?_) (Nat.zero_le _) ⟨by rw [offI,hn,Nat.sub_zero],_,_,_,_,_,rfl,rfl,rfl⟩
 · subst hs
   have e:=offG_step (a:=a) (b:=b) hi
   have q1:=fun h=>c159 a i h (by omega)
   have q2:=fun h=>c159 b i h (by omega)
   have q157:=c157
   generalize notedI a i=x at *
   generalize notedI b i=y at *
   unfold b102_0
   by_cases hxy:x=y
   · rw [if_neg (fun h=>h hxy)] at e
     by_cases h1:i<a.off.length
     · repeat' first|(apply WD.cl0;rfl;rfl;(first|(simp only [List.nil_append,List.cons_append];rfl)|rfl);first|exact q1 _|exact q2 _|exact q157 _ _ _)|(apply WO.ldK;rfl;(first|exact k0|exact k1);rfl)|apply W.seq|apply SQn|apply W.region|apply WO.nil|apply W.block|apply W.skip|apply BQn|apply W.draw|apply WD.nil|(apply WD.pure1;rfl)|(apply WD.load1;rfl;rfl;(first|(simp only [List.nil_append,List.cons_append];rfl)|rfl))|(apply W.condT;rfl)|(apply W.condF;rfl)|(apply WO.sF;rfl)|(apply WO.lss;rfl;rfl;all_goals first|(intro _;exfalso;omega)|intro _)|(apply WO.neq;rfl;rfl;all_goals first|(intro _;exfalso;omega)|intro _)|(apply WO.pkT;rfl;rfl)|(apply WO.add;rfl;rfl;omega)|(apply WO.pl;rfl;rfl)|(apply WO.pp;rfl;rfl)
       all_goals first|contradiction|(exfalso;omega)|exact LIn ⟨he.trans e,_,_,_,_,_,rfl,k0,k1⟩
     · repeat' first|(apply WD.cl0;rfl;rfl;(first|(simp only [List.nil_append,List.cons_append];rfl)|rfl);first|exact q1 _|exact q2 _|exact q157 _ _ _)|(apply WO.ldK;rfl;(first|exact k0|exact k1);rfl)|apply W.seq|apply SQn|apply W.region|apply WO.nil|apply W.block|apply W.skip|apply BQn|apply W.draw|apply WD.nil|(apply WD.pure1;rfl)|(apply WD.load1;rfl;rfl;(first|(simp only [List.nil_append,List.cons_append];rfl)|rfl))|(apply W.condT;rfl)|(apply W.condF;rfl)|(apply WO.gF;rfl)|(apply WO.lss;rfl;rfl;all_goals first|(intro _;exfalso;omega)|intro _)|(apply WO.neq;rfl;rfl;all_goals first|(intro _;exfalso;omega)|intro _)|(apply WO.pkF;rfl;rfl)|(apply WO.add;rfl;rfl;omega)|(apply WO.pl;rfl;rfl)|(apply WO.pp;rfl;rfl)
       all_goals first|contradiction|(exfalso;omega)|exact LIn ⟨he.trans e,_,_,_,_,_,rfl,k0,k1⟩
   · rw [if_pos hxy] at e
     by_cases h1:i<a.off.length
     · repeat' first|(apply WO.cll;rfl;rfl;first|exact q1 _|exact q2 _|exact q157 _ _ _)|(apply WD.cl0;rfl;rfl;(first|(simp only [List.nil_append,List.cons_append];rfl)|rfl);first|exact q1 _|exact q2 _|exact q157 _ _ _)|(apply WO.ldK;rfl;(first|exact k0|exact k1);rfl)|apply W.seq|apply SQn|apply W.region|apply WO.nil|apply W.block|apply W.ret|apply W.skip|apply SQr|apply BQr|apply LIr|apply W.draw|apply WD.nil|(apply WD.pure1;rfl)|(apply WD.load1;rfl;rfl;(first|(simp only [List.nil_append,List.cons_append];rfl)|rfl))|(apply W.condT;rfl)|(apply WO.sF;rfl)|(apply WO.lss;rfl;rfl;all_goals first|(intro _;exfalso;omega)|intro _)|(apply WO.neq;rfl;rfl;all_goals first|(intro _;exfalso;omega)|intro _)|(apply WO.pkT;rfl;rfl)|(apply WO.pl;rfl;rfl)|(apply WO.pp;rfl;rfl)
       all_goals first|contradiction|(exfalso;omega)|exact ⟨.inr rfl,rfl,_,rfl,by rw [he,e];rfl,rfl⟩
     · repeat' first|(apply WO.cll;rfl;rfl;first|exact q1 _|exact q2 _|exact q157 _ _ _)|(apply WD.cl0;rfl;rfl;(first|(simp only [List.nil_append,List.cons_append];rfl)|rfl);first|exact q1 _|exact q2 _|exact q157 _ _ _)|(apply WO.ldK;rfl;(first|exact k0|exact k1);rfl)|apply W.seq|apply SQn|apply W.region|apply WO.nil|apply W.block|apply W.ret|apply W.skip|apply SQr|apply BQr|apply LIr|apply W.draw|apply WD.nil|(apply WD.pure1;rfl)|(apply WD.load1;rfl;rfl;(first|(simp only [List.nil_append,List.cons_append];rfl)|rfl))|(apply W.condT;rfl)|(apply WO.gF;rfl)|(apply WO.lss;rfl;rfl;all_goals first|(intro _;exfalso;omega)|intro _)|(apply WO.neq;rfl;rfl;all_goals first|(intro _;exfalso;omega)|intro _)|(apply WO.pkF;rfl;rfl)|(apply WO.pl;rfl;rfl)|(apply WO.pp;rfl;rfl)
       all_goals first|contradiction|(exfalso;omega)|exact ⟨.inr rfl,rfl,_,rfl,by rw [he,e];rfl,rfl⟩
 · subst hs
   rw [Nat.sub_self,offG] at he
   unfold b102_0
   rcases a with ⟨aw,ah,ao,ar⟩
   rcases b with ⟨bw,bh,bo,br⟩
   have hn':n=max ao.length bo.length:=hn
   cases ar <;> cases br <;> skip
   all_goals
    repeat' first|(apply WO.eqV;rfl;rfl;rfl)|(apply WO.ldK;rfl;(first|exact k0|exact k1);rfl)|apply W.seq|apply SQn|apply W.region|apply WO.nil|apply W.ret|apply W.exit|apply W.skip|apply SQr|apply SQe|apply BQe|apply LIe|(apply W.condT;rfl)|(apply W.condF;rfl)|(apply WO.gF;rfl)|(apply WO.lss;rfl;rfl;all_goals first|(intro _;exfalso;omega)|intro _)|(apply WO.pkF;rfl;rfl)|(apply WO.pl;rfl;rfl)|(apply WO.pp;rfl;rfl)
    all_goals first|contradiction|(exfalso;omega)|exact ⟨.inr rfl,rfl,_,rfl,by rw [he];rfl,rfl⟩
def vertC (names:List Str) (hs:List Int) (step:Int) (c1 c2:Option Nat):List AV:=[.vs (strs names) names.length c1,.vs (ints hs) hs.length c2,.int .i64 step]
theorem w43 (hft:M.FT=FT) (c9:∀ (l:List Str) cap h,M.ext 9 [.vs (strs l) l.length cap] h=some ⟨.bool (shortN l),h,[]⟩) (c87:∀ (c:Card) h,M.ext 87 [.agg (cardC c)] h=some ⟨.bool (shortC c),h,[]⟩)
 (names:List Str) (hs:List Int) (step:Int) (l:List Card):Run M 43 [.agg (vertC names hs step c1 c2),.vs (cardsC l) l.length cap] [] ⟨.bool (shortCs names hs l),[],[]⟩:=by
 have q9:=fun h=>c9 names c1 h
 refine run_of_W (by rw [hft];exact ft43) (by simp) ?_
 unfold b43
 simp only [enter]
 cases h0:shortN names with
 | false=>
  rw [h0] at q9
  repeat' first|apply W.seq|apply SQn|apply W.region|apply WO.nil|apply W.ret|apply SQr|(apply W.condT;rfl)|(apply WO.sF;rfl)|(apply WO.pkT;rfl;rfl)|(apply WO.cll;rfl;rfl;first|exact q9 _)|(apply WO.hlv;rfl;rfl;rfl)|(apply WO.hpv;rfl;rfl;rfl)|(apply WO.pl;rfl;rfl)|(apply WO.pp;rfl;rfl)
  all_goals exact ⟨.inr rfl,rfl,_,rfl,by rw [shortCs,h0];rfl,rfl⟩
 | true=>
  rw [h0] at q9
  by_cases h1:27<hs.length
  · repeat' first|apply W.seq|apply SQn|apply W.region|apply WO.nil|apply W.ret|apply SQr|(apply W.condT;rfl)|(apply WO.gF;rfl)|(apply WO.sF;rfl)|(apply WO.gtr;rfl;rfl;all_goals first|(intro _;exfalso;omega)|intro _)|(apply WO.pkT;rfl;rfl)|(apply WO.pkF;rfl;rfl)|(apply WO.cll;rfl;rfl;first|exact q9 _)|(apply WO.hlv;rfl;rfl;rfl)|(apply WO.hpv;rfl;rfl;rfl)|(apply WO.pl;rfl;rfl)|(apply WO.pp;rfl;rfl)
    all_goals exact ⟨.inr rfl,rfl,_,rfl,by rw [shortCs,decide_eq_false (p:=hs.length≤27) (by omega),Bool.and_false];rfl,rfl⟩
  by_cases h2:35<l.length
  · repeat' first|apply W.seq|apply SQn|apply W.region|apply WO.nil|apply W.ret|apply SQr|(apply W.condT;rfl)|(apply WO.gF;rfl)|(apply WO.gtr;rfl;rfl;all_goals first|(intro _;exfalso;omega)|intro _)|(apply WO.pkF;rfl;rfl)|(apply WO.cll;rfl;rfl;first|exact q9 _)|(apply WO.hlv;rfl;rfl;rfl)|(apply WO.hpv;rfl;rfl;rfl)|(apply WO.pl;rfl;rfl)|(apply WO.pp;rfl;rfl)
    all_goals exact ⟨.inr rfl,rfl,_,rfl,by rw [shortCs,decide_eq_false (p:=l.length≤35) (by omega),Bool.and_false];rfl,rfl⟩
  have e0:shortCs names hs l=l.all shortC:=by rw [shortCs,h0,decide_eq_true (by omega),decide_eq_true (by omega)];rfl
  rw [e0]
  repeat' first|apply W.seq|apply SQn|apply W.region|apply WO.nil|apply W.block|apply W.skip|(apply W.condF;rfl)|(apply WO.gF;rfl)|(apply WO.gtr;rfl;rfl;all_goals first|(intro _;exfalso;omega)|intro _)|(apply WO.pkF;rfl;rfl)|(apply WO.cll;rfl;rfl;first|exact q9 _)|(apply WO.hlv;rfl;rfl;rfl)|(apply WO.hpv;rfl;rfl;rfl)|(apply WO.pl;rfl;rfl)|(apply WO.pp;rfl;rfl)
  refine W.loopI l.length (fun i s=>l.all shortC=(l.drop i).all shortC∧∃ a4 lo K wr,s=⟨⟨[.agg (vertC names hs step c1 c2),.vs (cardsC l) l.length cap,.ptr 0 0,.bool false,a4,.vs (cardsC l) l.length cap,.int .i64 l.length,.int .i64 i],lo,K,[]⟩,wr⟩) (fun i s hi ⟨he,a4,lo,K,wr,hs⟩=>?_) (fun s ⟨he,a4,lo,K,wr,hs⟩=>?_) (Nat.zero_le _) ⟨rfl,_,_,_,_,rfl⟩
  · subst hs
    have e:=all_drop (p:=shortC) hi
    rw [show l[i]! = l[((i:Int)).toNat]! from rfl] at e
    have q87:=fun h=>c87 l[((i:Int)).toNat]! h
    unfold b43_0
    cases hc:shortC l[((i:Int)).toNat]! with
    | false=>
     rw [hc] at q87 e
     repeat' first|apply W.seq|apply SQn|apply W.region|apply WO.nil|apply W.block|apply W.ret|apply W.skip|apply SQr|apply BQr|apply LIr|(apply W.condT;rfl)|(apply WO.lss;rfl;rfl;all_goals first|(intro _;exfalso;omega)|intro _)|(apply WO.cll;rfl;rfl;first|exact q87 _)|(apply WO.stK;rfl;rfl;exact ⟨rfl,by first|exact Nat.le_refl _|decide|(simp [overwrite]),rfl⟩;rfl)|(apply WO.ldK;rfl;(first|exact at_new|assumption|exact at_old at_new|exact at_old (at_old at_new)|exact at_old (at_old (at_old at_new))|exact at_put (by simp)|((repeat apply at_old);assumption));rfl)|(apply WO.iav;rfl;rfl;omega)|(apply WO.lda;rfl;exact fun _=>rfl;(first|omega|(simp only [List.length_set];omega)|(simp;omega));decide;rfl;case ia=>infer_instance)|(apply WO.hpv;rfl;rfl;rfl)|(apply WO.pl;rfl;rfl)|(apply WO.pp;rfl;rfl)
     all_goals exact ⟨.inr rfl,rfl,_,rfl,by rw [he,e];rfl,rfl⟩
    | true=>
     rw [hc] at q87 e
     rw [Bool.true_and] at e
     repeat' first|apply W.seq|apply SQn|apply W.region|apply WO.nil|apply W.block|apply W.skip|apply BQn|(apply W.condT;rfl)|(apply W.condF;rfl)|(apply WO.lss;rfl;rfl;all_goals first|(intro _;exfalso;omega)|intro _)|(apply WO.add;rfl;rfl;omega)|(apply WO.cll;rfl;rfl;first|exact q87 _)|(apply WO.stK;rfl;rfl;exact ⟨rfl,by first|exact Nat.le_refl _|decide|(simp [overwrite]),rfl⟩;rfl)|(apply WO.ldK;rfl;(first|exact at_new|assumption|exact at_old at_new|exact at_old (at_old at_new)|exact at_old (at_old (at_old at_new))|exact at_put (by simp)|((repeat apply at_old);assumption));rfl)|(apply WO.iav;rfl;rfl;omega)|(apply WO.lda;rfl;exact fun _=>rfl;(first|omega|(simp only [List.length_set];omega)|(simp;omega));decide;rfl;case ia=>infer_instance)|(apply WO.hpv;rfl;rfl;rfl)|(apply WO.pl;rfl;rfl)|(apply WO.pp;rfl;rfl)
     all_goals exact LIn ⟨he.trans e,_,_,_,_,rfl⟩
  · subst hs
    rw [List.drop_length] at he
    unfold b43_0
    repeat' first|apply W.seq|apply SQn|apply W.region|apply WO.nil|apply W.ret|apply W.exit|apply SQe|apply BQe|apply LIe|(apply W.condF;rfl)|(apply WO.lss;rfl;rfl;all_goals first|(intro _;exfalso;omega)|intro _)|(apply WO.pp;rfl;rfl)
    exact ⟨.inr rfl,rfl,_,rfl,by rw [he];rfl,rfl⟩
theorem cardsF_drop {names:List Str} {hs:List Int} {l:List Card} {i:Nat} (h:i<l.length):cardsF names hs i (l.drop i)=if cardE names hs i l[i]! ≠ 0 then cardE names hs i l[i]! else cardsF names hs (i+1) (l.drop (i+1)):=by
 rw [List.drop_eq_getElem_cons h,getElem!_pos l i h,cardsF]
set_option maxHeartbeats 1000000 in
theorem w47 (hft:M.FT=FT) (c96:∀ (c:Card) h,okC c→M.ext 96 [.agg (cardC c)] h=some ⟨.int .i64 (formE c),h,[]⟩)
 (names:List Str) (hs:List Int) (step:Int) (l:List Card) (hl:l.length<1000) (hL:∀ c∈l,okC c):Run M 47 [.agg (vertC names hs step c1 c2),.vs (cardsC l) l.length cap] [] ⟨.int .i64 (cardsE names hs l),[],[]⟩:=by
 refine run_of_W (by rw [hft];exact ft47) (by simp) ?_
 unfold b47
 simp only [enter]
 by_cases h0:l.length=names.length
 · have e0:cardsE names hs l=cardsF names hs 0 l:=by rw [cardsE,if_neg (fun h=>h h0)]
   rw [e0]
   repeat' first|apply W.seq|apply SQn|apply W.region|apply WO.nil|apply W.block|apply W.skip|(apply W.condF;rfl)|(apply WO.neq;rfl;rfl;all_goals first|(intro _;exfalso;omega)|intro _)|(apply WO.hlv;rfl;rfl;rfl)|(apply WO.hpv;rfl;rfl;rfl)|(apply WO.pl;rfl;rfl)|(apply WO.pp;rfl;rfl)
   refine W.loopI l.length (fun i s=>cardsF names hs 0 l=cardsF names hs i (l.drop i)∧∃ a5 lo K wr,s=⟨⟨[.agg (vertC names hs step c1 c2),.vs (cardsC l) l.length cap,.ptr 0 0,.int .i64 0,.int .i64 i,a5],lo,K,[]⟩,wr⟩∧K.at 0=some (.cells (vertC names hs step c1 c2) 27)) (fun i s hi ⟨he,a5,lo,K,wr,hs',hK⟩=>?_) (fun s ⟨he,a5,lo,K,wr,hs',hK⟩=>?_) (Nat.zero_le _) ⟨rfl,_,_,_,_,rfl,rfl⟩
   · subst hs'
     have hi2:i<names.length:=by omega
     have e:=cardsF_drop (names:=names) (hs:=hs) hi
     rw [show l[i]! = l[((i:Int)).toNat]! from rfl] at e
     have ok:=card_get hL hi
     rw [show l[i]! = l[((i:Int)).toNat]! from rfl] at ok
     have q96:=fun h=>c96 l[((i:Int)).toNat]! h ok
     unfold b47_0
     by_cases hw:(l[((i:Int)).toNat]!).who=names[((i:Int)).toNat]!
     · have ew:cardE names hs i l[((i:Int)).toNat]! = if formE l[((i:Int)).toNat]! ≠ 0 then formE l[((i:Int)).toNat]! else if hs.length<(l[((i:Int)).toNat]!).hs.length then 5 else 0:=by
        rw [cardE,if_neg (fun h=>h hw)]
       by_cases hf:formE l[((i:Int)).toNat]! = 0
       · rw [if_neg (fun h=>h hf)] at ew
         rw [hf] at q96
         by_cases hh:hs.length<(l[((i:Int)).toNat]!).hs.length
         · rw [if_pos hh] at ew
           rw [ew,if_pos (by decide)] at e
           repeat' first|apply W.seq|apply SQn|apply W.region|apply WO.nil|apply W.block|apply W.ret|apply W.skip|apply SQr|apply BQr|apply LIr|(apply W.drawro;rfl)|(apply W.condT;rfl)|(apply W.condF;rfl)|(apply WO.gT;rfl)|(apply WO.lss;rfl;rfl;all_goals first|(intro _;exfalso;omega)|intro _)|(apply WO.gtr;rfl;rfl;all_goals first|(intro _;exfalso;omega)|intro _)|(apply WO.eql;rfl;rfl;all_goals first|(intro _;exfalso;omega)|intro _)|(apply WO.neq;rfl;rfl;all_goals first|(intro _;exfalso;omega)|intro _)|(apply WO.pkT;rfl;rfl)|(apply WO.cll;rfl;rfl;first|exact q96 _)|(apply WO.ldK;rfl;exact hK;rfl)|(apply WO.iav;rfl;rfl;omega)|(apply WO.lda;rfl;exact fun _=>rfl;(first|omega|(simp only [List.length_set];omega)|(simp;omega));decide;rfl;case ia=>infer_instance)|(apply WO.ldf;rfl;exact fun _=>rfl;(first|omega|(simp only [List.length_set];omega)|(simp;omega));decide;rfl;case ia=>infer_instance)|(apply WO.sneq;rfl;rfl;all_goals first|(intro h;exact absurd h (by decide))|(intro h;exact absurd rfl h)|(intro h;contradiction)|intro _)|(apply WO.pl;rfl;rfl)|(apply WO.pp;rfl;rfl)
           all_goals first|contradiction|(exfalso;omega)|exact ⟨.inr rfl,rfl,_,rfl,by rw [he,e];rfl,rfl⟩
         · rw [if_neg hh] at ew
           rw [ew,if_neg (by decide)] at e
           repeat' first|apply W.seq|apply SQn|apply W.region|apply WO.nil|apply W.block|apply W.skip|apply BQn|(apply W.drawro;rfl)|(apply W.condT;rfl)|(apply W.condF;rfl)|(apply WO.gT;rfl)|(apply WO.lss;rfl;rfl;all_goals first|(intro _;exfalso;omega)|intro _)|(apply WO.gtr;rfl;rfl;all_goals first|(intro _;exfalso;omega)|intro _)|(apply WO.eql;rfl;rfl;all_goals first|(intro _;exfalso;omega)|intro _)|(apply WO.neq;rfl;rfl;all_goals first|(intro _;exfalso;omega)|intro _)|(apply WO.pkT;rfl;rfl)|(apply WO.add;rfl;rfl;omega)|(apply WO.cll;rfl;rfl;first|exact q96 _)|(apply WO.ldK;rfl;exact hK;rfl)|(apply WO.iav;rfl;rfl;omega)|(apply WO.lda;rfl;exact fun _=>rfl;(first|omega|(simp only [List.length_set];omega)|(simp;omega));decide;rfl;case ia=>infer_instance)|(apply WO.ldf;rfl;exact fun _=>rfl;(first|omega|(simp only [List.length_set];omega)|(simp;omega));decide;rfl;case ia=>infer_instance)|(apply WO.sneq;rfl;rfl;all_goals first|(intro h;exact absurd h (by decide))|(intro h;exact absurd rfl h)|(intro h;contradiction)|intro _)|(apply WO.pl;rfl;rfl)|(apply WO.pp;rfl;rfl)
           all_goals first|contradiction|(exfalso;omega)|exact LIn ⟨he.trans e,_,_,_,_,rfl,hK⟩
       · rw [if_pos hf] at ew
         rw [ew,if_pos hf] at e
         generalize formE l[((i:Int)).toNat]! = E at *
         repeat' first|apply W.seq|apply SQn|apply W.region|apply WO.nil|apply W.block|apply W.ret|apply W.skip|apply SQr|apply BQr|apply LIr|(apply W.drawro;rfl)|(apply W.condT;rfl)|(apply W.condF;rfl)|(apply WO.sT;rfl)|(apply WO.lss;rfl;rfl;all_goals first|(intro _;exfalso;omega)|intro _)|(apply WO.eql;rfl;rfl;all_goals first|(intro _;exfalso;omega)|intro _)|(apply WO.neq;rfl;rfl;all_goals first|(intro _;exfalso;omega)|intro _)|(apply WO.pkF;rfl;rfl)|(apply WO.cll;rfl;rfl;first|exact q96 _)|(apply WO.ldK;rfl;exact hK;rfl)|(apply WO.iav;rfl;rfl;omega)|(apply WO.lda;rfl;exact fun _=>rfl;(first|omega|(simp only [List.length_set];omega)|(simp;omega));decide;rfl;case ia=>infer_instance)|(apply WO.sneq;rfl;rfl;all_goals first|(intro h;exact absurd h (by decide))|(intro h;exact absurd rfl h)|(intro h;contradiction)|intro _)|(apply WO.pl;rfl;rfl)|(apply WO.pp;rfl;rfl)
         all_goals first|contradiction|(exfalso;omega)|exact ⟨.inr rfl,rfl,_,rfl,by rw [he,e];rfl,rfl⟩
     · have ew:cardE names hs i l[((i:Int)).toNat]! = 10:=by rw [cardE,if_pos (show (l[((i:Int)).toNat]!).who≠names[i]! from hw)]
       rw [ew,if_pos (by decide)] at e
       repeat' first|apply W.seq|apply SQn|apply W.region|apply WO.nil|apply W.block|apply W.ret|apply W.skip|apply SQr|apply BQr|apply LIr|(apply W.drawro;rfl)|(apply W.condT;rfl)|(apply WO.lss;rfl;rfl;all_goals first|(intro _;exfalso;omega)|intro _)|(apply WO.ldK;rfl;exact hK;rfl)|(apply WO.iav;rfl;rfl;omega)|(apply WO.lda;rfl;exact fun _=>rfl;(first|omega|(simp only [List.length_set];omega)|(simp;omega));decide;rfl;case ia=>infer_instance)|(apply WO.sneq;rfl;rfl;all_goals first|(intro h;exact absurd h (by decide))|(intro h;exact absurd rfl h)|(intro h;contradiction)|intro _)|(apply WO.pl;rfl;rfl)|(apply WO.pp;rfl;rfl)
       all_goals first|contradiction|exact ⟨.inr rfl,rfl,_,rfl,by rw [he,e];rfl,rfl⟩
   · subst hs'
     rw [List.drop_length] at he
     unfold b47_0
     repeat' first|apply W.seq|apply SQn|apply W.region|apply WO.nil|apply W.ret|apply W.exit|apply SQe|apply BQe|apply LIe|(apply W.condF;rfl)|(apply WO.lss;rfl;rfl;all_goals first|(intro _;exfalso;omega)|intro _)|(apply WO.pl;rfl;rfl)|(apply WO.pp;rfl;rfl)
     exact ⟨.inr rfl,rfl,_,rfl,by rw [he];rfl,rfl⟩
 · repeat' first|apply W.seq|apply SQn|apply W.region|apply WO.nil|apply W.ret|apply SQr|(apply W.condT;rfl)|(apply WO.neq;rfl;rfl;all_goals first|(intro _;exfalso;omega)|intro _)|(apply WO.hlv;rfl;rfl;rfl)|(apply WO.hpv;rfl;rfl;rfl)|(apply WO.pl;rfl;rfl)|(apply WO.pp;rfl;rfl)
   all_goals first|(exfalso;omega)|exact ⟨.inr rfl,rfl,_,rfl,by rw [cardsE,if_pos h0];rfl,rfl⟩
end Go.Ab.Ch6
