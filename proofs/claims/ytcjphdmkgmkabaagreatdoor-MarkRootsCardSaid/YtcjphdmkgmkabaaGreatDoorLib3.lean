/-
  Own work: a drawn region: whatever order is drawn, the state behind it is that of the text's order.
-/
import Derived.Test.YtcjphdmkgmkabaaGreatDoorLib2
import Derived.Laws.Externs
import Derived.WalkKit
import Derived.Carry
import Derived.OpenShut
import Derived.ChangeSame
set_option maxHeartbeats 8000000
set_option maxRecDepth 20000
namespace Go.Ab
variable {call:du} {inv:fe} {il:List aO} {un:Nat->List Nat} {st:Nat->al} {h0:Nat->ab} {r:Nat->HR} {C:Cx} {bits:List Nat} {ρ0:au} {w0:World} {df:List Deferred}
structure Inv (C:Cx)(il:List aO)(st:Nat->al)(r:Nat->HR)(bits:List Nat)(ρ0:au)(w0:World)(df:List Deferred)(S:Nat->Prop)(ρ:au)(H:ab)(a:Act)(w:World):Prop where
 hlen:H.length=(st il.length).s.hp.length
 mem:Mem C.P C.gl ρ H w
 ext:Ext (st 0).s.hp H ρ0 ρ w0 w
 sW:∀k,k<il.length->¬S k->∀b,(st k).s.hp.length<=b->b<(r k).h.length->H[b]? = some (some .hole)
 heap:∀b k,k<=il.length->(∀i,i<k->own st r i b->S i)->(∀j,k<=j->j<il.length->S j->¬own st r j b)->∀o,(st k).s.hp[b]? = some (some o)->H[b]? = some (some o)/\o.top<=(st k).s.hp.length
 slot:∀y k,k<=il.length->(∀(i:Nat) o,i<k->il[i]? = some o->dt o.dst y=true->S i)->(∀(j:Nat) o,k<=j->il[j]? = some o->S j->dt o.dst y=false) ->
  ∀v,(st k).s.aa y=some v->VS C ρ w a.tmps y v/\((∃c,y = .c c)\/v.top<=(st k).s.hp.length)
 size:a.tmps.size=C.N
 fA:a.defers=df
 yj:∀i,S i->i<il.length->∀j,j<i->(bits.getD i 0).testBit j=true->S j
theorem Inv.after (T:lM call inv il un st h0 r){S:Nat->Prop}{ρ:au}{H:ab}{a:Act}{w:World}(I:Inv C il st r bits ρ0 w0 df S ρ H a w)(hnd:C.az.Nodup){k:Nat}{io:aO}(hio:il[k]? = some io)(hS:¬S k)
 (hap:∀(i:Nat) oi,il[i]? = some oi->∀j∈un i,∃oj,il[j]? = some oj/\mT oj oi=true)
 (hb1:∀j,j<k->¬S j->j∈un k) (hb2:∀j,k<j->j<il.length->S j->k∈un j) (hb3:∀j,j<k->(bits.getD k 0).testBit j=true->S j)
 (hkey:∀(b:Nat) x,(h0 k)[b]? = some (some x)->H[b]? = some (some x)) {dst:Option Tmp} (hd:jj C dst=some io.dst) {v':Value} {w':World} {ρ':au}
 (hv:V ρ' w' (r k).v v') (m':Mem C.P C.gl ρ' (r k).h w') (x:Ext (h0 k) (r k).h (dC (st k).s.hp.length ρ) ρ' w w') :
 ∃ρn H',Inv C il st r bits ρ0 w0 df (fun i=>S i\/i=k) ρn H' (a.put dst v') w':=by
 have hk:k<il.length:=(List.getElem?_eq_some_iff.1 hio).1;have hioe:il[k]=io:=(List.getElem?_eq_some_iff.1 hio).2;have sk:=T.step k io hio;have hlo:(h0 k).length=(st k).s.hp.length:=sk.len;have hle:=T.sS hk;have hnx:=T.sV hk;have hwr:=T.EM hk;have hmn:=T.gJ (i:=k+1) (j:=il.length) (by omega) (Nat.le_refl _);generalize hloe:(st k).s.hp.length=lo at *
 generalize hhie:(r k).h.length=hi at *
 let ownb:Nat->Bool:=fun b=>(r k).wr.contains b || (decide (lo<=b) && decide (b<hi))
 have ownb_iff:∀b,ownb b=true↔own st r k b:=by
  intro b;simp only[ownb,own,hloe,hhie];simp
 let ρn:au:=⟨fun b=>if b<hi then ρ' b else ρ b,ρ.X⟩
 let H':ab:=H.mapIdx fun b o=>if ownb b then ((r k).h[b]?).join else o
 have hH':∀b,H'[b]? = (H[b]?).map fun o=>if ownb b then ((r k).h[b]?).join else o:=by
  intro b;simp only[H',List.getElem?_mapIdx]
 have hH'len:H'.length=H.length:=by simp[H']
 have cut_eq:∀b,b<lo->(dC lo ρ) b=ρ b:=fun b hb=>by simp only[dC];rw[if_pos hb]
 have cut_ge:∀b,lo<=b->(dC lo ρ) b = .fresh:=fun b hb=>by simp only[dC];rw[if_neg (by omega)]
 have fresh_new:∀b,lo<=b->b<hi->ρ b = .fresh:=fun b h1 h2=>I.mem.cF b .hole (I.sW k hk hS b (by omega) (by omega))
 have h0none:∀b,b<lo->H[b]? = some none->(h0 k)[b]? = some none:=by
  intro b hb hn;cases hz:(h0 k)[b]? with
  | none=>rw[List.getElem?_eq_none_iff]at hz;omega
  | some z=>cases z with
    | none=>rfl
    | some z=>rw[hkey b z hz]at hn;cases hn
 have ρn_lt:∀b,b<hi->ρn b=ρ' b:=fun b hb=>by show (if b<hi then ρ' b else ρ b)=_;rw[if_pos hb]
 have ρn_ge:∀b,hi<=b->ρn b=ρ b:=fun b hb=>by show (if b<hi then ρ' b else ρ b)=_;rw[if_neg (by omega)]
 have E:Ext H H' ρ ρn w w':=by
  refine⟨x.os,x.tape,x.output,x.size,by rw[hH'len];exact Nat.le_refl _,rfl,?_,?_,?_,?_,?_,?_,?_,x.shape⟩
  . intro b hb;have:ownb b=false:=by
     rw[Bool.eq_false_iff];intro ho;rcases (ownb_iff b).1 ho with h|⟨h1,h2⟩
     . obtain⟨z,hz⟩:=sk.pY b h;rw[hkey b z hz]at hb;cases hb
     . rw[I.sW k hk hS b h1 h2]at hb;cases hb
    rw[hH' b,hb];simp[this]
  . intro b hb;rcases Nat.lt_or_ge b hi with h|h
    . rw[ρn_lt b h];have hblo:b<lo:=by
       rcases Nat.lt_or_ge b lo with h'|h'
       . exact h'
       . rw[I.sW k hk hS b (by omega) (by omega)]at hb;cases hb
      rw[x.same b (h0none b hblo hb),cut_eq b hblo]
    . exact ρn_ge b h
  . intro b c d hb;rcases Nat.lt_or_ge b hi with h|h
    . rw[ρn_lt b h];rcases Nat.lt_or_ge b lo with h'|h'
      . exact x.live b c d (by rw[cut_eq b h'];exact hb)
      . rw[fresh_new b h' h]at hb;cases hb
    . rw[ρn_ge b h];exact .inl hb
  . intro b hb;rcases Nat.lt_or_ge b hi with h|h
    . rw[ρn_lt b h];rcases Nat.lt_or_ge b lo with h'|h'
      . exact x.dead b (by rw[cut_eq b h'];exact hb)
      . rw[fresh_new b h' h]at hb;cases hb
    . rw[ρn_ge b h];exact hb
  . intro b hb;rcases Nat.lt_or_ge b hi with h|h
    . rw[ρn_lt b h];rcases Nat.lt_or_ge b lo with h'|h'
      . exact x.nil b (by rw[cut_eq b h'];exact hb)
      . rw[fresh_new b h' h]at hb;cases hb
    . rw[ρn_ge b h];exact .inl hb
  . intro c hc hu;refine x.bB c hc fun b d hb=>?_
    rcases Nat.lt_or_ge b lo with h'|h'
    . rw[cut_eq b h']at hb;exact h0none b h' (hu b d hb)
    . rw[cut_ge b h']at hb;cases hb
  . intro b c d hb hc;rcases Nat.lt_or_ge b hi with h|h
    . rw[ρn_lt b h]at hb;rcases x.back b c d hb hc with h1|⟨b0,d0,h1,h2⟩
      . rcases Nat.lt_or_ge b lo with h'|h'
        . rw[cut_eq b h']at h1;exact .inl h1
        . rw[cut_ge b h']at h1;cases h1
      . rcases Nat.lt_or_ge b0 lo with h'|h'
        . rw[cut_eq b0 h']at h1;refine .inr ⟨b0,d0,h1,fun hn=>h2 (h0none b0 h' hn)⟩
        . rw[cut_ge b0 h']at h1;cases h1
    . rw[ρn_ge b h]at hb;exact .inl hb
 have hFree:∀c,cn ρ' c->cn ρn c:=by
  intro c hc;have hX:ρ'.X=(dC lo ρ).X:=x.X;have h2:=hc.2;rw[hX]at h2;refine⟨fun b d hb=>?_,fun hx=>h2 (.inl hx)⟩;rcases Nat.lt_or_ge b hi with h|h
  . rw[ρn_lt b h]at hb;exact hc.1 b d hb
  . rw[ρn_ge b h]at hb;exact h2 (.inr ⟨b,d,by omega,hb⟩)
 have top':∀{y:AV} {u:Value},V ρ' w' y u->y.top<=hi:=fun hy=>hy.top fun b hb=>m'.fresh b (by omega)
 have hM:Mem C.P C.gl ρn H' w':=by
  refine⟨?_,?_,?_,?_,?_,?_,fun g v hg=>(I.mem.gl g v hg).mono E⟩
  . intro b o hb;rw[hH' b]at hb;cases hz:H[b]? with
    | none=>rw[hz]at hb;cases hb
    | some z=>
     rw[hz]at hb;simp only[Option.map_some,Option.some.injEq]at hb;have useR:(r k).h[b]? = some (some o)->BR C.P C.gl ρn w' b o:=by
      intro hr;have hb':b<hi:=by have:=(List.getElem?_eq_some_iff.1 hr).1;omega
      have hbr:=m'.cF b o hr;exact hbr.fF (n:=hi) (fun b hb=>ρn_lt b hb) hFree hb' (hbr.top fun b hb=>m'.fresh b (by omega))
     split at hb
     . rename_i ho;refine useR ?_;cases hq:(r k).h[b]? with
       | none=>rw[hq]at hb;cases hb
       | some q=>rw[hq]at hb;simp at hb;rw[hb]
     . rename_i hno;subst hb;have hno':¬own st r k b:=fun h=>hno ((ownb_iff b).2 h)
       have hbr:=I.mem.cF b o hz;rcases Nat.lt_or_ge b lo with h'|h'
       . cases hz0:(h0 k)[b]? with
         | none=>rw[List.getElem?_eq_none_iff]at hz0;omega
         | some z0=>
          cases z0 with
          | some o'=>
           have:=hkey b o' hz0;rw[hz]at this;cases this;refine useR ?_;rw[hwr.2 b (by omega) (fun h=>hno' (.inl h)),hz0]
          | none=>
           refine hbr.mono E ?_ ?_
           . rw[ρn_lt b (by omega),x.same b hz0,cut_eq b h']
           . intro c d hl;refine x.bB c (I.mem.bound b c d hl) fun b' d' hb'=>?_
             rcases Nat.lt_or_ge b' lo with h''|h''
             . rw[cut_eq b' h'']at hb';have:=I.mem.inj _ _ _ _ _ hl hb';subst this;exact hz0
             . rw[cut_ge b' h'']at hb';cases hb'
       . have hge:hi<=b:=by
          rcases Nat.lt_or_ge b hi with h|h
          . exact absurd (.inr ⟨by omega,by omega⟩) hno'
          . exact h
         refine hbr.mono E (ρn_ge b hge) ?_;intro c d hl;refine x.bB c (I.mem.bound b c d hl) fun b' d' hb'=>?_
         rcases Nat.lt_or_ge b' lo with h''|h''
         . rw[cut_eq b' h'']at hb';have:=I.mem.inj _ _ _ _ _ hl hb';omega
         . rw[cut_ge b' h'']at hb';cases hb'
  . intro b hb;rw[hH'len,I.hlen]at hb;rw[ρn_ge b (by omega)];exact I.mem.fresh b (by rw[I.hlen];exact hb)
  . have key:∀b b' c d d',b<hi->hi<=b'->ρ' b = .live c d->ρ b' = .live c d'->False:=by
     intro b b' c d d' h1 h2 h3 h4;have:=m'.xo b c d h3;rw[x.X]at this;exact this (.inr ⟨b',d',by omega,h4⟩)
    intro b b' c d d' h1 h2;rcases Nat.lt_or_ge b hi with h|h <;> rcases Nat.lt_or_ge b' hi with h'|h'
    . rw[ρn_lt b h]at h1;rw[ρn_lt b' h']at h2;exact m'.inj _ _ _ _ _ h1 h2
    . rw[ρn_lt b h]at h1;rw[ρn_ge b' h']at h2;exact(key _ _ _ _ _ h h' h1 h2).elim
    . rw[ρn_ge b h]at h1;rw[ρn_lt b' h']at h2;exact(key _ _ _ _ _ h' h h2 h1).elim
    . rw[ρn_ge b h]at h1;rw[ρn_ge b' h']at h2;exact I.mem.inj _ _ _ _ _ h1 h2
  . intro b c d hb;rcases Nat.lt_or_ge b hi with h|h
    . rw[ρn_lt b h]at hb;exact m'.bound _ _ _ hb
    . rw[ρn_ge b h]at hb;exact Nat.lt_of_lt_of_le (I.mem.bound _ _ _ hb) x.size
  . intro c hc;exact Nat.lt_of_lt_of_le (I.mem.xb c hc) x.size
  . intro b c d hb hX;rcases Nat.lt_or_ge b hi with h|h
    . rw[ρn_lt b h]at hb;have:=m'.xo b c d hb;rw[x.X]at this;exact this (.inl hX)
    . rw[ρn_ge b h]at hb;exact I.mem.xo _ _ _ hb hX
 have hvn:V ρn w' (r k).v v':=hv.fF (n:=hi) (fun b hb=>ρn_lt b hb) hFree (top' hv);refine⟨ρn,H',⟨by rw[hH'len];exact I.hlen,hM,I.ext.trans E,?_,?_,?_,?_,?_,?_⟩⟩
 . -- holes
   intro k' hk' hS' b h1 h2;have hne:k'≠k:=fun e=>hS' (.inr e)
   have hh:=I.sW k' hk' (fun h=>hS' (.inl h)) b h1 h2;have:ownb b=false:=by
    rw[Bool.eq_false_iff];intro ho;rcases (ownb_iff b).1 ho with h|⟨h3,h4⟩
    . obtain⟨z,hz⟩:=sk.pY b h;rw[hkey b z hz]at hh;cases hh;have hst:=sk.known b _ hz;rcases Nat.lt_trichotomy k' k with hlt|heq|hgt
      . -- made by k' in the text's order, so k' has been carried out
        have hun:k'∈un k:=hb1 k' hlt (fun h=>hS' (.inl h));exact(sk.off b _ hz k' hun hlt).2 ⟨h1,h2⟩
      . exact hne heq
      . have hlen':=(List.getElem?_eq_some_iff.1 hz).1;have:=T.gJ (i:=k) (j:=k') (by omega) (by omega);omega
    . rcases Nat.lt_trichotomy k' k with hlt|heq|hgt
      . have h5:=T.sV hk';have h6:=T.gJ (i:=k'+1) (j:=k) (by omega) (by omega);omega
      . exact hne heq
      . have h6:=T.gJ (i:=k+1) (j:=k') (by omega) (by omega);omega
   rw[hH' b,hh];simp[this]
 . -- heap
   intro b m hm h1 h2 o ho;by_cases ba:own st r k b
   . have hkm:k<m:=by
      rcases Nat.lt_or_ge k m with h|h
      . exact h
      . exact absurd ba (h2 k h hk (.inr rfl))
     have hst:=T.stays (i:=k+1) (b:=b) (m:=m) (by omega) hm (fun j hj1 hj2 hoj=>by
      have hSj:S j:=(h1 j hj2 hoj).resolve_right (by omega);have hun:=hb2 j (by omega) (by omega) hSj;have sj:=T.step j il[j] (by simp);rcases hoj with hoj|hoj
      . obtain⟨z,hz⟩:=sj.pY b hoj;have:=sj.off b z hz k hun (by omega);rcases ba with ba|ba
        . exact this.1 ba
        . exact this.2 ba
      . have hlj:=T.gJ (i:=k+1) (j:=j) (by omega) (by omega);rcases ba with ba|ba
        . obtain⟨z,hz⟩:=sk.pY b ba;have:=(List.getElem?_eq_some_iff.1 hz).1;omega
        . omega)
     rw[hst,T.OC hk ba]at ho;have hbl:b<H.length:=by
      have:=(List.getElem?_eq_some_iff.1 ho).1;have:=I.hlen;omega
     refine⟨?_,?_⟩
     . rw[hH' b,List.getElem?_eq_getElem hbl];simp[(ownb_iff b).2 ba,ho]
     . have:=(m'.cF b o ho).top (n:=hi) (fun b hb=>m'.fresh b (by omega));have:=T.gJ (i:=k+1) (j:=m) (by omega) hm;omega
   . have hno:ownb b=false:=by rw[Bool.eq_false_iff];exact fun h=>ba ((ownb_iff b).1 h)
     obtain⟨g1,g2⟩:=I.heap b m hm (fun i hi' hoi=>(h1 i hi' hoi).resolve_right (fun e=>ba (e ▸ hoi))) (fun j hj1 hj2 hSj=>h2 j hj1 hj2 (.inl hSj)) o ho;exact⟨by rw[hH' b,g1];simp[hno],g2⟩
 . -- slots
   intro y m hm h1 h2 v hv0;by_cases hy:dt io.dst y=true
   . have hkm:k<m:=by
      rcases Nat.lt_or_ge k m with h|h
      . exact h
      . have:=h2 k io h hio (.inr rfl);rw[hy]at this;cases this
     have hst:=T.yi (i:=k+1) (y:=y) (m:=m) (by omega) hm (fun j oj hj1 hj2 hoj=>by
      rw[Bool.eq_false_iff];intro hyj;have hSj:S j:=(h1 j oj hj2 hoj hyj).resolve_right (by omega);have hun:=hb2 j (by omega) (by omega) hSj;obtain⟨ok,ba,hapt⟩:=hap j oj hoj k hun;rw[hio]at ba;cases ba;simp only[mT,Bool.and_eq_true,Bool.not_eq_true']at hapt;have:=hapt.2;cases hd1:io.dst <;> cases hd2:oj.dst <;> cases y <;> simp[hd1,hd2,dt,Dr]at hy hyj this
      . exact this (hy.trans hyj.symm)
      . exact this (hy.trans hyj.symm))
     rw[hst,T.EN hk,hioe]at hv0;have:=Oz hy hv0;subst this;refine⟨VS.Ox hd I.size hy hvn,.inr ?_⟩;have:=T.gJ (i:=k+1) (j:=m) (by omega) hm;have:=top' hv;omega
   . have hy':dt io.dst y=false:=by simpa using hy
     obtain⟨g1,g2⟩:=I.slot y m hm (fun i oi hi' hoi hs=>(h1 i oi hi' hoi hs).resolve_right (fun e=>by subst e;rw[hio]at hoi;cases hoi;exact hy hs)) (fun j oj hj1 hj2 hSj=>h2 j oj hj1 hj2 (.inl hSj)) v hv0;exact⟨(g1.mono E).Oy hd hnd hy',g2⟩
 . rw[sQ];cases dst <;> simp[I.size]
 . rw[←I.fA];unfold Act.put;split <;> rfl
 . intro i hSi hi' j hj hbit;rcases hSi with hSi|rfl
   . exact .inl (I.yj i hSi hi' j hj hbit)
   . exact .inl (hb3 j hj hbit)
end Go.Ab
namespace Go.Ab
variable {call:du} {il:List aO} {st:Nat->al} {h0:Nat->ab} {r:Nat->HR} {C:Cx} {bits:List Nat} {ρ0:au} {w0:World} {df:List Deferred} {ops:Array Oper}
theorem EP {α:Type}{l:List α}{i:Nat}{x:α}(h:l[i]? = some x):(x,i)∈l.zipIdx:=by
 rw[List.mem_zipIdx_iff_getElem?];exact h
theorem ET (h:mX ops.toList bits=true){i:Nat}{o:Oper}(ho:ops[i]? = some o) :
 (∀e∈o.after,Region.binds .any e=true->e.on<i)/\∀j,j<i->(bits.getD i 0).testBit j=true->∃e∈o.after,Region.binds .any e=true/\(e.on=j\/(j<e.on/\(bits.getD e.on 0).testBit j=true)):=by
 have:=List.all_eq_true.1 h (o,i) (EP (by simpa using ho));simp only[Bool.and_eq_true]at this;obtain⟨h1,h2⟩:=this;refine⟨fun e he hb=>?_,fun j hj hbit=>?_⟩
 . have:=List.all_eq_true.1 h1 e (by simpa using he);rw[hb]at this;simpa using this
 . have:=List.all_eq_true.1 h2 j (by simpa using hj);rw[hbit]at this;simp only[Bool.not_true,Bool.false_or]at this;obtain⟨e,he,hh⟩:=List.any_eq_true.1 this;simp only[Bool.and_eq_true,Bool.or_eq_true,beq_iff_eq,decide_eq_true_eq]at hh;exact⟨e,by simpa using he,hh.1,hh.2⟩
theorem EV {b i j:Nat}:j∈ix b i↔j<i/\b.testBit j=false:=by
 simp[ix]
theorem OE (h:mY il bits=true)(i:Nat)(oi:aO)(ho:il[i]? = some oi):∀j∈ix (bits.getD i 0) i,∃oj,il[j]? = some oj/\mT oj oi=true:=by
 intro j hj;have:=List.all_eq_true.1 h (oi,i) (EP ho);have:=List.all_eq_true.1 this j hj;split at this
 . rename_i oj hoj;exact⟨oj,hoj,this⟩
 . cases this
theorem Inv.step (hcall:kp C.P C.gl call)(T:lM call (dY C.P) il (fun k=>ix (bits.getD k 0) k) st h0 r)(hil:iL C ops.toList ops.toList=some il)(hbits:mX ops.toList bits=true)(hdraw:mY il bits=true)
 (hnd:C.az.Nodup) (hlt:∀t∈C.az,t<C.N) (hpl:(st 0).s.pe.length=C.az.length) (hgl:∀g v,C.gl g=some v->v.top<=(st 0).s.hp.length) {S:Nat->Prop} {ρ:au} {H:ab} {a:Act} {w:World}
 (I:Inv C il st r bits ρ0 w0 df S ρ H a w) {k:Nat} {o:Oper} (ho:ops[k]? = some o) (hS:¬S k) (hready:∀e∈o.after,Region.binds .any e=true->S e.on) {ro:Option Nat} {K:Act->World->Prop} {Q:Exit->Act->World->Prop}
 (hK:∀ρn H' a' w',Inv C il st r bits ρ0 w0 df (fun i=>S i\/i=k) ρn H' a' w'->K a' w'):wpOpIn (FR ro) 0 C.P ops Q k K a w:=by
 obtain⟨hlen,hget⟩:=pW hil;obtain⟨io,hio,hoi⟩:=hget k o (by simpa using ho);obtain⟨hd,hop,hg⟩:=EC hoi;have hk:k<il.length:=(List.getElem?_eq_some_iff.1 hio).1;have sk:=T.step k io hio;obtain⟨hbb,hbt⟩:=ET hbits ho;have hb3:∀j,j<k->(bits.getD k 0).testBit j=true->S j:=by
  intro j hj hbit;obtain⟨e,he,hb,hor⟩:=hbt j hj hbit;have hSe:=hready e he hb;have hek:=hbb e he hb;rcases hor with rfl|hor
  . exact hSe
  . exact I.yj e.on hSe (by omega) j hor.1 hor.2
 have hb1:∀j,j<k->¬S j->j∈ix (bits.getD k 0) k:=by
  intro j hj hSj;rw[EV];refine⟨hj,?_⟩;rw[Bool.eq_false_iff];exact fun hbit=>hSj (hb3 j hj hbit)
 have hb2:∀j,k<j->j<il.length->S j->k∈ix (bits.getD j 0) j:=by
  intro j hj hjl hSj;rw[EV];refine⟨hj,?_⟩;rw[Bool.eq_false_iff];exact fun hbit=>hS (I.yj j hSj hjl k hj hbit)
 have hap:=OE hdraw;have hkey:∀(b:Nat) x,(h0 k)[b]? = some (some x)->H[b]? = some (some x)/\x.top<=(st k).s.hp.length:=by
  intro b x hb;refine I.heap b k (by omega) ?_ ?_ x (sk.known b x hb)
  . intro i hi hoi;rcases Classical.em (S i) with h|h
    . exact h
    . have:=sk.off b x hb i (hb1 i hi h) hi;rcases hoi with hoi|hoi
      . exact absurd hoi this.1
      . exact absurd hoi this.2
  . intro j hj hjl hSj hoj;have hne:j≠k:=fun e=>hS (e ▸ hSj)
    have hun:=hb2 j (by omega) hjl hSj;rcases hoj with hoj|hoj
    . exact(T.step j il[j] (by simp)).Ov k hun (by omega) b hoj x hb
    . have h1:=(List.getElem?_eq_some_iff.1 hb).1;rw[sk.len]at h1;have:=T.gJ (i:=k) (j:=j) (by omega) (by omega);omega
 have hslot:∀y∈io.fL,∀v,(st k).s.aa y=some v->VS C ρ w a.tmps y v/\((∃c,y = .c c)\/v.top<=(st k).s.hp.length):=by
  intro y hy v hv;refine I.slot y k (by omega) ?_ ?_ v hv
  . intro i oi hi hoi hs;rcases Classical.em (S i) with h|h
    . exact h
    . obtain⟨oj,hoj,hapt⟩:=hap k io hio i (hb1 i hi h);rw[hoi]at hoj;cases hoj;simp only[mT,Bool.and_eq_true]at hapt;have:=List.all_eq_true.1 hapt.1.1 y hy;rw[hs]at this;cases this
  . intro j oj hj hoj hSj;have hne:j≠k:=fun e=>hS (e ▸ hSj)
    have hjl:=(List.getElem?_eq_some_iff.1 hoj).1;obtain⟨ok,ba,hapt⟩:=hap j oj hoj k (hb2 j (by omega) hjl hSj);rw[hio]at ba;cases ba;simp only[mT,Bool.and_eq_true]at hapt;have:=List.all_eq_true.1 hapt.1.2 y hy;simpa using this
 have iO:∀{x:AV} {v:Value},V ρ w x v->x.top<=(st k).s.hp.length->V (dC (st k).s.hp.length ρ) w x v:=fun hv ht=>
  hv.fF (fun b hb=>by simp only[dC];rw[if_pos hb]) (fun c hc=>hc.dC _) ht
 have hmem:Mem C.P C.gl (dC (st k).s.hp.length ρ) (h0 k) w:=by
  refine⟨?_,?_,?_,?_,?_,?_,?_⟩
  . intro b x hb;have h1:=(List.getElem?_eq_some_iff.1 hb).1;rw[sk.len]at h1;obtain⟨g1,g2⟩:=hkey b x hb;exact(I.mem.cF b x g1).fF (fun b hb=>by simp only[dC];rw[if_pos hb]) (fun c hc=>hc.dC _) h1 g2
  . intro b hb;rw[sk.len]at hb;simp only[dC];rw[if_neg (by omega)]
  . intro b b' c d d' h1 h2;simp only[dC]at h1 h2;split at h1
    . split at h2
      . exact I.mem.inj _ _ _ _ _ h1 h2
      . cases h2
    . cases h1
  . intro b c d h1;simp only[dC]at h1;split at h1
    . exact I.mem.bound _ _ _ h1
    . cases h1
  . rintro c (hc|⟨b,d,_,hb⟩)
    . exact I.mem.xb c hc
    . exact I.mem.bound _ _ _ hb
  . intro b c d h1 hX;simp only[dC]at h1;split at h1
    . rename_i hlt';rcases hX with hX|⟨b',d',hge,hb'⟩
      . exact I.mem.xo _ _ _ h1 hX
      . have:=I.mem.inj _ _ _ _ _ h1 hb';omega
    . cases h1
  . intro g v hg';refine iO (I.mem.gl g v hg') ?_;have:=hgl g v hg';have:=T.gJ (i:=0) (j:=k) (by omega) (by omega);omega
 have hrel:Rel C (dC (st k).s.hp.length ρ) (restrict io.fL (st k).s (h0 k)) a w:=by
  refine⟨OB I.size hnd hlt (by rw[T.EO (by omega)];exact hpl) ?_ _,hmem⟩;intro y hy v hv;obtain⟨g1,g2⟩:=hslot y hy v hv;cases y with
  | p i=>exact fun t ht=>iO (g1 t ht) (g2.resolve_left (by rintro⟨c,hc⟩;cases hc))
  | l t=>exact⟨g1.1,g1.2.1,iO g1.2.2 (g2.resolve_left (by rintro⟨c,hc⟩;cases hc))⟩
  | c _=>trivial
 have hfin:∀(v':Value) (w':World) (ρ':au),V ρ' w' (r k).v v'->Mem C.P C.gl ρ' (r k).h w'->Ext (h0 k) (r k).h (dC (st k).s.hp.length ρ) ρ' w w'->K (a.put o.dst v') w':=by
  intro v' w' ρ' hv m' x;obtain⟨ρn,H',I'⟩:=Inv.after T I hnd hio hS hap hb1 hb2 hb3 (fun b x hb=>(hkey b x hb).1) hd hv m' x;exact hK ρn H' _ w' I'
 obtain⟨b,hw,hb1',hb0'⟩:=sk.wanted;have hwr:di (restrict io.fL (st k).s (h0 k)) io.guard=some b:=by
  rw[←hw];unfold di;cases hgd:io.guard with
  | none=>rfl
  | some g=>
   obtain⟨y,want⟩:=g;simp only;rw[EL (s:=(st k).s) (y:=y) (us:=io.fL) (by simp[aO.fL,hgd])]
 have hwant:=yc hrel hg hwr;unfold wpOpIn;rw[ho];simp only[hwant];cases b with
 | true=>
  simp only[if_true];have hq:bw call (dY C.P) (restrict io.fL (st k).s (h0 k)) io.op=some (r k):=by
   rw[←hb1' rfl];refine EB rfl fun y hy=>?_
   rw[EL (by simp[aO.fL,hy])];cases y <;> rfl
  refine Ey hcall hrel hop hq ?_;rintro v' w' ⟨ρ',hv,m',x⟩;exact hfin v' w' ρ' hv m' x
 | false=>
  simp only[Bool.false_eq_true,if_false];refine⟨fun _ _=>trivial,?_⟩;have e:=hb0' rfl;refine hfin undef w (dC (st k).s.hp.length ρ) ?_ ?_ ?_
  . rw[e];exact V.undef
  . rw[e];exact hmem
  . rw[e];exact Ext.refl _ _ _
end Go.Ab
namespace Go.Ab
variable {call:du} {il:List aO} {st:Nat->al} {h0:Nat->ab} {r:Nat->HR} {C:Cx} {bits:List Nat} {ρ0:au} {w0:World} {df:List Deferred} {ops:Array Oper}
theorem count_set:∀(l:List Bool) (k:Nat),l[k]? = some false->(l.set k true).count false+1=l.count false
 | [],k,h=>by simp at h
 | b::l,0,h=>by simp at h;subst h;simp
 | b::l,k+1,h=>by
  have:=count_set l k (by simpa using h);cases b <;> simp[this]
theorem all_true (l:List Bool)(h:l.count false=0)(i:Nat)(hi:i<l.length):l[i]? = some true:=by
 rw[List.count_eq_zero]at h;cases hq:l[i] with
 | true=>simp[hi,hq]
 | false=>exact absurd (hq ▸ List.getElem_mem hi) h
theorem OF (hcall:kp C.P C.gl call)(T:lM call (dY C.P) il (fun k=>ix (bits.getD k 0) k) st h0 r)(hil:iL C ops.toList ops.toList=some il)(hbits:mX ops.toList bits=true)(hdraw:mY il bits=true)
 (hnd:C.az.Nodup) (hlt:∀t∈C.az,t<C.N) (hpl:(st 0).s.pe.length=C.az.length) (hgl:∀g v,C.gl g=some v->v.top<=(st 0).s.hp.length) {ro:Option Nat} {Q:Exit->Act->World->Prop}
 (hQ:∀(S:Nat->Prop) ρ H a w,(∀i,i<il.length->S i)->Inv C il st r bits ρ0 w0 df S ρ H a w->Q .normal a w) :
 ∀(fuel:Nat) (listed:Array Bool) (ρ:au) (H:ab) (a:Act) (w:World),listed.size=ops.size->Inv C il st r bits ρ0 w0 df (fun i=>listed[i]? = some true) ρ H a w->listed.toList.count false<=fuel ->
  wpAnyIn (FR ro) 0 C.P .any ops Q fuel listed a w:=by
 have hlen:il.length=ops.size:=by have:=(pW hil).1;simpa using this
 intro fuel;induction fuel with
 | zero=>
  intro listed ρ H a w hsz I hc;have hall:∀i,i<ops.size->listed[i]? = some true:=fun i hi=>by
   have:=all_true listed.toList (by omega) i (by simp;omega);simpa using this
  refine⟨?_,hQ _ ρ H a w (fun i hi=>hall i (by omega)) I⟩;rw[List.eq_nil_iff_forall_not_mem];intro i hi;obtain⟨h1,o,h2,_⟩:=mem_ready.1 hi;have hi':=(Array.getElem?_eq_some_iff.1 h2).1;have:=hall i hi';rw[Array.getD_eq_getD_getElem?,this]at h1;cases h1
 | succ fuel ih=>
  intro listed ρ H a w hsz I hc;refine⟨fun hr=>?_,fun k hk=>?_⟩
  . refine hQ _ ρ H a w (fun i=>?_) I;induction i using Nat.strongRecOn with
    | _ i ihi=>
     intro hi;have hi':i<ops.size:=by omega
     have hl:i<listed.size:=by omega
     cases hq:listed[i] with
     | true=>simp[hl,hq]
     | false=>
      exfalso;have:i∈Region.ready .any ops listed:=by
       rw[mem_ready];refine⟨by rw[Array.getD_eq_getD_getElem?];simp[hl,hq],ops[i],by simp[hi'],fun e he hb=>?_⟩;have hon:=(ET (bits:=bits) hbits (i:=i) (o:=ops[i]) (by simp[hi'])).1 e he hb;have:=ihi e.on hon (by omega);rw[Array.getD_eq_getD_getElem?,this];rfl
      rw[hr]at this;cases this
  . obtain⟨h1,o,h2,h3⟩:=mem_ready.1 hk;have hk':=(Array.getElem?_eq_some_iff.1 h2).1;have hl:k<listed.size:=by omega
    have hkf:listed[k]? = some false:=by
     rw[Array.getD_eq_getD_getElem?]at h1;cases hq:listed[k]? with
     | none=>rw[hq]at h1;cases h1
     | some b=>rw[hq]at h1;simp at h1;rw[h1]
    refine Inv.step hcall T hil hbits hdraw hnd hlt hpl hgl I h2 (by rw[hkf];simp) (fun e he hb=>?_) ?_
    . have:=h3 e he hb;rw[Array.getD_eq_getD_getElem?]at this;cases hq:listed[e.on]? with
      | none=>rw[hq]at this;cases this
      | some b=>rw[hq]at this;simp at this;rw[this]
    . intro ρn H' a' w' I';refine ih _ ρn H' a' w' (by simp[hsz]) ?_ ?_
      . have:(fun i=>(listed.setIfInBounds k true)[i]? = some true)=(fun i=>listed[i]? = some true\/i=k):=by
         funext i
         rw[Array.getElem?_setIfInBounds];by_cases e:k=i
         . subst e;simp[hl]
         . rw[if_neg e];simp[Ne.symm e]
        rw[this];exact I'
      . have:=count_set listed.toList k (by simpa using hkf);rw[Array.toList_setIfInBounds];omega
theorem OG (hcall:kp C.P C.gl call)(hmix:C.P.follows .mixedOrders=true)(hwr:∀g as h r,call g as h=some r->eM h r){ro:Option Nat}{id:Nat}{ρ:au}{a:Act}{w:World}(hil:iL C ops.toList ops.toList=some il)(hbits:mX ops.toList bits=true)(hdraw:mY il bits=true)
 {Q:Exit->Act->World->Prop} {s s':al} (rel:Rel C ρ s.s a w) (hq:dc call (dY C.P) (il.zipIdx.map fun (o,i)=>(o,ix (bits.getD i 0) i)) ⟨{ s.s with lo:=[] },s.wr⟩ []=some s')
 (hQ:∀ρ' a' w',Rel C ρ' s'.s a' w'->Ext s.s.hp s'.s.hp ρ ρ' w w'->a'.defers=a.defers->s'.s.bA=s.s.bA->Q .normal a' w'):(Code.region id ops true).wpIn (FR ro) 0 C.P Q a w:=by
 obtain⟨hlen,hget⟩:=pW hil;have hlen':il.length=ops.size:=by simpa using hlen
 obtain⟨st,h0,r,_,e2,e3,e4⟩:=trace _ _ [] s' (fun _=>s) (fun _=>[]) (fun _=>⟨.cz,[],[]⟩) (by intro j d hj;simp at hj) hq;simp only[List.length_nil,Nat.zero_add,List.length_map,List.length_zipIdx]at e2 e3 e4;have T:lM call (dY C.P) il (fun k=>ix (bits.getD k 0) k) st h0 r:=by
  refine⟨fun k o ho=>e4 k o _ ?_,hwr⟩;rw[List.getElem?_map,List.getElem?_zipIdx,ho];simp
 have hst0:(st 0).s.hp=s.s.hp:=by rw[e2]
 have hpe0:(st 0).s.pe=s.s.pe:=by rw[e2]
 have hn:(st il.length)=s':=e3;have er:=rel.er;have hgl:∀g v,C.gl g=some v->v.top<=(st 0).s.hp.length:=fun g v hg=>by
  rw[hst0];exact(rel.mem.gl g v hg).top fun b hb=>rel.mem.fresh b hb
 refine wpIn_region_any hmix ?_;have md:=rel.mem.drew (w.drawn+1);have xd:=Ext.drew s.s.hp ρ w (w.drawn+1);have hmono:=T.gJ (i:=0) (j:=il.length) (by omega) (Nat.le_refl _);let H0:ab:=s.s.hp++List.replicate ((st il.length).s.hp.length-s.s.hp.length) (some .hole)
 have hH0:∀b,H0[b]? = if b<s.s.hp.length then s.s.hp[b]? else if b<(st il.length).s.hp.length then some (some .hole) else none:=by
  intro b;simp only[H0];rw[List.getElem?_append];split
  . rfl
  . rename_i hge;rw[List.getElem?_replicate];rw[hst0]at hmono;by_cases h:b<(st il.length).s.hp.length
    . rw[if_pos (by omega),if_pos h]
    . rw[if_neg (by omega),if_neg h]
 have hH0len:H0.length=(st il.length).s.hp.length:=by
  simp only[H0];rw[hst0]at hmono;simp;omega
 have hext:Ext (st 0).s.hp H0 ρ ρ w { w with drawn:=w.drawn+1 }:=by
  rw[hst0];refine⟨xd.os,xd.tape,xd.output,xd.size,by rw[hH0len];rw[hst0]at hmono;exact hmono,rfl,?_,xd.same,xd.live,xd.dead,xd.nil,xd.bB,xd.back,xd.shape⟩;intro b hb;rw[hH0 b,if_pos (List.getElem?_eq_some_iff.1 hb).1];exact hb
 have hmem:Mem C.P C.gl ρ H0 { w with drawn:=w.drawn+1 }:=by
  refine⟨?_,?_,md.inj,md.bound,md.xb,md.xo,md.gl⟩
  . intro b o hb;rw[hH0 b]at hb;split at hb
    . exact md.cF b o hb
    . split at hb
      . cases hb;exact md.fresh b (by omega)
      . cases hb
  . intro b hb;rw[hH0len]at hb;rw[hst0]at hmono;exact md.fresh b (by omega)
 have init:Inv C il st r bits ρ w a.defers (fun i=>(Array.replicate ops.size false)[i]? = some true) ρ H0 a { w with drawn:=w.drawn+1 }:=by
  have hnone:∀i:Nat,¬(Array.replicate ops.size false)[i]? = some true:=by
   intro i h;rw[Array.getElem?_replicate]at h;split at h <;> cases h
  refine⟨hH0len,hmem,hext,?_,?_,?_,er.size,rfl,?_⟩
  . intro k hk _ b h1 h2;have g1:=T.gJ (i:=0) (j:=k) (by omega) (by omega);have g2:=T.sV hk;have g3:=T.gJ (i:=k+1) (j:=il.length) (by omega) (Nat.le_refl _);rw[hst0]at g1;rw[hH0 b,if_neg (by omega),if_pos (by omega)]
  . intro b k hk h1 _ o ho;have hst:=T.stays (i:=0) (b:=b) (m:=k) (by omega) hk (fun j _ hj hoj=>hnone j (h1 j hj hoj));rw[hst,hst0]at ho;have hlt:=(List.getElem?_eq_some_iff.1 ho).1;refine⟨by rw[hH0 b,if_pos hlt];exact ho,?_⟩;have h3:=(rel.mem.cF b o ho).top (n:=s.s.hp.length) fun b hb=>rel.mem.fresh b hb
    have g1:=T.gJ (i:=0) (j:=k) (by omega) hk;rw[hst0]at g1;omega
  . intro y k hk h1 _ v hv;have hst:=T.yi (i:=0) (y:=y) (m:=k) (by omega) hk (fun j o _ hj ho=>by
     rw[Bool.eq_false_iff];exact fun hs=>hnone j (h1 j o hj ho hs))
    rw[hst,e2]at hv;have g1:=T.gJ (i:=0) (j:=k) (by omega) hk;rw[hst0]at g1;cases y with
    | p i=>
     simp only[St.aa]at hv;have hi:=(List.getElem?_eq_some_iff.1 hv).1;have hp:=er.jk;refine⟨fun t ht=>(er.pe i v t hv ht).mono xd,.inr ?_⟩;have h3:=(er.pe i v C.az[i] hv (by simp)).top (n:=s.s.hp.length) fun b hb=>rel.mem.fresh b hb
     omega
    | l t=>simp[St.aa]at hv
    | c c=>exact⟨trivial,.inl ⟨c,rfl⟩⟩
  . intro i hi;exact absurd hi (hnone i)
 refine OF hcall T hil hbits hdraw er.nodup er.lt (by rw[hpe0];exact er.jk) hgl (ρ0:=ρ) (w0:=w) (df:=a.defers) ?_ ops.size _ ρ H0 a _ (by simp) init ?_
 . intro S ρ1 H a1 w1 hall I;have hblk:∀b o,(st il.length).s.hp[b]? = some (some o)->H[b]? = some (some o):=fun b o ho=>
    (I.heap b il.length (Nat.le_refl _) (fun i hi _=>hall i hi) (fun j hj hj'=>by omega) o ho).1
   have hslot:∀y v,(st il.length).s.aa y=some v->VS C ρ1 w1 a1.tmps y v:=fun y v hv=>
    (I.slot y il.length (Nat.le_refl _) (fun i o hi _ _=>hall i hi) (fun j o hj ho=>by
     have:=(List.getElem?_eq_some_iff.1 ho).1;omega) v hv).1
   rw[hn]at hblk hslot;have hl1:H.length=s'.s.hp.length:=by rw[I.hlen,hn]
   refine hQ ρ1 a1 w1 ⟨⟨I.size,er.nodup,er.lt,?_,fun i v t hv ht=>hslot (.p i) v hv t ht,fun t v hv=>hslot (.l t) v hv⟩,?_⟩ ?_ I.fA ?_
   . rw[←hn,T.EO (Nat.le_refl _),hpe0];exact er.jk
   . exact⟨fun b o hb=>I.mem.cF b o (hblk b o hb),fun b hb=>I.mem.fresh b (by omega),I.mem.inj,I.mem.bound,I.mem.xb,I.mem.xo,I.mem.gl⟩
   . have x:=I.ext;rw[hst0]at x;refine⟨x.os,x.tape,x.output,x.size,by rw[←hl1];exact x.len,x.X,fun b hb=>?_,x.same,x.live,x.dead,x.nil,x.bB,x.back,x.shape⟩;rw[←hn];exact T.cz (by rw[hst0];exact hb) (Nat.le_refl _)
   . rw[←hn,T.bA (Nat.le_refl _),e2]
 . rw[Array.toList_replicate];simp
end Go.Ab
namespace Go.Ab
variable {c:Code}
variable {P:Program} {gl:Nat->Option AV} {ρ:au} {w:World} {h:ab} {C:Cx} {s:St} {a:Act}
section scope
variable {F:Fence} {n:Nat} {b:Frame} {k:List Item} {cs:List Frame} {Q:Exit->Act->World->Prop}
theorem nu:step P (lone (b.atR a (.code (.scope c)::k)) cs w) = .next (lone (b.atR a (.code c :: .inScope c::k)) cs w):=
 step_lone_go (by simp[stepG,stepG.exec,Frame.atR])
theorem OH:step P (lone (b.atR a (.inScope c::k)) cs w) = .next (lone (b.atR a k) cs w):=
 step_lone_go (by simp[stepG,stepG.exec,Frame.atR])
def noGoto (Q:Exit->Act->World->Prop):Exit->Act->World->Prop
 | .goto _,_,_=>False
 | e,a,w=>Q e a w
theorem OI (h:c.wpIn F n P (noGoto Q) a w):(Code.scope c).wpIn F n P Q a w:=by
 intro b k cs hro hb hr;have h0:(lone (b.atR a (.code (.scope c)::k)) cs w).fenced P F:=fenced_calm hb hr rfl;obtain⟨e,a₁,w₁,hq,harr⟩:=h b (.inScope c::k) cs hro hb hr;cases e with
 | normal=>exact⟨.normal,a₁,w₁,hq,.head h0 nu (StepsIn.trans harr (.one (fenced_calm hb hr rfl) OH))⟩
 | exit id=>exact⟨_,a₁,w₁,hq,fun k' hk=>.head h0 nu (harr.1 k' (by simp[exitTo,hk])),
     fun hr' hk=>let ⟨k₁,h1,h2⟩:=harr.2 hr' (by simp[exitTo,hk]);⟨k₁,h1,.head h0 nu h2⟩⟩
 | goto l=>exact hq.elim
 | ret=>exact⟨_,a₁,w₁,hq,.of_steps (.one h0 nu) harr⟩
 | panic ch=>exact⟨_,a₁,w₁,hq,.of_steps (.one h0 nu) harr⟩
 | outgrown=>exact⟨_,a₁,w₁,hq,.of_steps (.one h0 nu) harr⟩
end scope
def fg (s s':al):Prop:=s.s.hp.length<=s'.s.hp.length/\(∀b∈s.wr,b∈s'.wr)/\∀b,b<s.s.hp.length->b∉s'.wr->s'.s.hp[b]? = s.s.hp[b]?
theorem fg.refl (s:al):fg s s:=⟨Nat.le_refl _,fun _ h=>h,fun _ _ _=>rfl⟩
theorem fg.trans {s s1 s2:al}(x:fg s s1)(y:fg s1 s2):fg s s2:=
 ⟨Nat.le_trans x.1 y.1,fun b hb=>y.2.1 b (x.2.1 b hb),fun b hb hn=>by
  rw[y.2.2 b (Nat.lt_of_lt_of_le hb x.1) hn,x.2.2 b hb (fun h=>hn (y.2.1 b h))]⟩
theorem fg.step {s:al}{q:HR}{x:St}(hx:x.hp=q.h)(hq:eM s.s.hp q):fg s ⟨x,q.wr++s.wr⟩:=
 ⟨by rw[hx];exact hq.1,fun b hb=>List.mem_append_right _ hb,fun b hb hn=>by
  simp only[List.mem_append,not_or]at hn;show x.hp[b]? = _;rw[hx];exact hq.2 b hb hn.1⟩
theorem fg.same {s:al}{x:St}(hx:x.hp=s.s.hp):fg s ⟨x,s.wr⟩:=⟨by rw[hx];exact Nat.le_refl _,fun _ h=>h,fun b _ _=>by show x.hp[b]? = _;rw[hx]⟩
theorem yk (s:St)(d:dU)(v:AV):(s.put d v).hp=s.hp:=by cases d <;> rfl
theorem yl {call:du}{inv:fe}(hcall:∀g as h r,call g as h=some r->eM h r):∀(l:List aO) (s s':al),dN call inv l s=some s'->fg s s'
 | [],s,s',h=>by cases h;exact .refl _
 | o::l,s,s',h=>by
  simp only[dN]at h;split at h
  . split at h
    . rename_i q hq;exact(fg.step rfl (ye hcall hq)).trans (yl hcall l _ s' h)
    . cases h
  . exact(fg.same (yk _ _ _)).trans (yl hcall l _ s' h)
  . cases h
theorem yn {call:du}{inv:fe}:∀(l:List aO) (s s':al),dN call inv l s=some s'->s'.s.bA=s.s.bA
 | [],s,s',h=>by cases h;rfl
 | o::l,s,s',h=>by
  have hp:∀(s:St) (d:dU) (v:AV),(s.put d v).bA=s.bA:=fun s d v=>by cases d <;> rfl
  simp only[dN]at h;split at h
  . split at h
    . exact(yn l _ s' h).trans (hp _ _ _)
    . cases h
  . exact(yn l _ s' h).trans (hp _ _ _)
  . cases h
theorem OJ {call:du}{inv:fe}(hcall:∀g as h r,call g as h=some r->eM h r){l:List (aO×List Nat)}{s s':al}(h:dc call inv l s []=some s'):fg s s':=by
 obtain⟨st,h0,r,_,e2,e3,e4⟩:=trace l s [] s' (fun _=>s) (fun _=>[]) (fun _=>⟨.cz,[],[]⟩) (by intro j d hj;simp at hj) h;simp only[List.length_nil,Nat.zero_add]at e2 e3 e4;have key:∀k,k<=l.length->fg (st 0) (st k):=by
  intro k;induction k with
  | zero=>intro _;exact .refl _
  | succ k ih=>
   intro hk;refine(ih (by omega)).trans ?_;have sk:=e4 k l[k].1 l[k].2 (List.getElem?_eq_getElem (by omega));have hwr:eM (h0 k) (r k):=by
    obtain⟨b,_,h1,h2⟩:=sk.wanted;cases b with
    | true=>exact ye hcall (h1 rfl)
    | false=>rw[h2 rfl];exact nk _
   have hl:(st k).s.hp.length<=(r k).h.length:=by have:=hwr.1;rw[sk.len]at this;exact this
   rw[sk.next];refine⟨by show _<=(dv _ _ _ _).length;rw[pU _ _ _ _ hl];exact hl,fun b hb=>List.mem_append_right _ hb,fun b hb hn=>?_⟩;simp only[List.mem_append,not_or]at hn;show (dv (r k).wr (st k).s.hp (r k).h 0)[b]? = _;rw[gZ _ _ _ _ _ hl,if_pos hb];simp[hn.1]
 rw[←e2,←e3];exact key _ (Nat.le_refl _)
def DF (ρ:au)(ds:List Nat)(l:List Deferred):Prop:=
 ds.length=l.length/\∀(i:Nat) b d,ds[i]? = some b->l[i]? = some d->∃c,d = { target:=.collected c,args:=#[] }/\(ρ b = .live c 0\/ρ b = .dead)
theorem DF.mono {h h':ab}{ρ ρ':au}{w w':World}(x:Ext h h' ρ ρ' w w'){ds:List Nat}{l:List Deferred}(hd:DF ρ ds l):DF ρ' ds l:=
 ⟨hd.1,fun i b d h1 h2=>by
  obtain⟨c,h3,h4⟩:=hd.2 i b d h1 h2;refine⟨c,h3,?_⟩;rcases h4 with h4|h4
  . exact x.live _ _ _ h4
  . exact .inr (x.dead _ h4)⟩
theorem yp:∀(ds:List Nat) (s s':al),jH ds s=some s'->fg s s'/\s'.s.pe=s.s.pe/\s'.s.lo=s.s.lo
 | [],s,s',h=>by cases h;exact⟨.refl _,rfl,rfl⟩
 | d::ds,s,s',h=>by
  simp only[jH]at h;split at h
  . obtain⟨h1,h2,h3⟩:=yp ds _ s' h;refine⟨fg.trans ⟨by simp[ab.put],fun b hb=>List.mem_cons_of_mem _ hb,fun b hb hn=>?_⟩ h1,h2,h3⟩;simp only[List.mem_cons,not_or]at hn;exact jl hn.1
  . cases h
theorem EW {F:Fence}{n:Nat}{fn:Func}{tmps:Array Value}{R:Ending->World->Prop}:∀(ds:List Nat) (l:List Deferred) (s s':al) (w:World),DF ρ ds l->Mem P gl ρ s.s.hp w->jH ds s=some s' ->
 (∀w',Mem P gl ρ s'.s.hp w'->Ext s.s.hp s'.s.hp ρ ρ w w'->LeavesInM F n P fn tmps R [] .returning w')->LeavesInM F n P fn tmps R l .returning w
 | [],l,s,s',w,hd,m,hq,hk=>by
  have:l=[]:=by have:=hd.1;cases l <;> simp_all
  subst this;cases hq;exact hk w m (Ext.refl _ _ _)
 | b::ds,[],s,s',w,hd,m,hq,hk=>by have:=hd.1;simp at this
 | b::ds,d::l,s,s',w,hd,m,hq,hk=>by
  simp only[jH]at hq;split at hq
  . rename_i hb;have h0:=nj hb;obtain⟨c,g1,g2⟩:=m.cF b _ h0;obtain⟨c',g3,g4⟩:=hd.2 0 b d rfl rfl;have:c'=c:=by
     rcases g4 with g4|g4
     . rw[g1]at g4;cases g4;rfl
     . rw[g1]at g4;cases g4
    subst this;have hO:∀cs0 e0 fr0,w.heap[c']? = some (.cells cs0 e0 fr0)->∃cs' fr',Obj.deferred none = .cells cs' e0 fr'/\cs'.size=cs0.size:=by
     intro _ _ _ hq';rw[g2]at hq';cases hq'
    have x:=Ext.write m h0 g1 none (.deferred none) hO;have m1:=Mem.write m h0 g1 none (.deferred none) hO (by intro o' ho;cases ho);refine⟨by simp,.inl ⟨c',w.cP c' (.deferred none),by rw[g3],?_,?_⟩⟩
    . simp[Instr.takeDeferred,km g2,lI g2]
    . exact EW ds l _ s' _ ⟨by have:=hd.1;simpa using this,fun i b d h1 h2=>hd.2 (i+1) b d (by simpa using h1) (by simpa using h2)⟩ m1 hq
       fun w' m' x'=>hk w' m' (x.trans x')
  . cases hq
theorem EX {ρ ρ':au}{w w':World}{h:ab}(m:Mem P gl ρ h w){s:al}(hwr:h.length<=s.s.hp.length/\∀b,b<h.length->b∉s.wr->s.s.hp[b]? = h[b]?){v:AV}{v':Value}(hv:V ρ' w' v v')(m':Mem P gl ρ' s.s.hp w')(x:Ext h s.s.hp ρ ρ' w w') :
 dP P gl ρ h w (eB v h.length s) v' w':=by
 unfold eB;split
 . rename_i hc;simp only[Bool.and_eq_true,decide_eq_true_eq]at hc;obtain⟨htop,htight⟩:=hc;have hb:∀b,b<h.length->ρ b≠.fresh->True:=fun _ _ _=>trivial
   have cut_lt:∀b,b<h.length->(gW h.length ρ') b=ρ' b:=fun b hb=>by simp only[gW];rw[if_pos hb]
   have cut_ge:∀b,h.length<=b->(gW h.length ρ') b = .fresh:=fun b hb=>by simp only[gW];rw[if_neg (by omega)]
   have bB:∀b,ρ b≠.fresh->b<h.length:=fun b hb=>by
    rcases Nat.lt_or_ge b h.length with h'|h'
    . exact h'
    . exact absurd (m.fresh b h') hb
   have get:∀b,(s.s.hp.take h.length)[b]? = if b<h.length then s.s.hp[b]? else none:=fun b=>by
    rw[List.getElem?_take]
   refine⟨gW h.length ρ',hv.cut htop,?_,?_⟩
   . refine⟨?_,?_,?_,?_,m'.xb,?_,fun g u hg=>(m'.gl g u hg).cut ?_⟩
     . intro b o hb;rw[get b]at hb;split at hb
       . rename_i hlt;refine(m'.cF b o hb).fF (n:=h.length) cut_lt (fun c hc=>hc.cut _) hlt ?_;rcases Classical.em (b∈s.wr) with hw|hw
         . have:=List.all_eq_true.1 htight b hw;unfold ab.at at this;rw[hb]at this;simp at this;omega
         . rw[hwr.2 b hlt hw]at hb;exact(m.cF b o hb).top fun b hb=>m.fresh b hb
       . cases hb
     . intro b hb;simp at hb;have:=hwr.1;exact cut_ge b (by omega)
     . intro b b' c d d' h1 h2;simp only[gW]at h1 h2;split at h1
       . split at h2
         . exact m'.inj _ _ _ _ _ h1 h2
         . cases h2
       . cases h1
     . intro b c d h1;simp only[gW]at h1;split at h1
       . exact m'.bound _ _ _ h1
       . cases h1
     . intro b c d h1;simp only[gW]at h1;split at h1
       . exact m'.xo _ _ _ h1
       . cases h1
     . exact(m.gl g u hg).top fun b hb=>m.fresh b hb
   . refine⟨x.os,x.tape,x.output,x.size,by have:=hwr.1;simp;omega,x.X,?_,?_,?_,?_,?_,x.bB,?_,x.shape⟩
     . intro b hb;have hlt:=(List.getElem?_eq_some_iff.1 hb).1;rw[get b,if_pos hlt];exact x.cz b hb
     . intro b hb;have hlt:=(List.getElem?_eq_some_iff.1 hb).1;rw[cut_lt b hlt];exact x.same b hb
     . intro b c d hb;rw[cut_lt b (bB b (by rw[hb];simp))];exact x.live b c d hb
     . intro b hb;rw[cut_lt b (bB b (by rw[hb];simp))];exact x.dead b hb
     . intro b hb;rw[cut_lt b (bB b (by rw[hb];simp))];exact x.nil b hb
     . intro b c d hb hc;simp only[gW]at hb;split at hb
       . exact x.back b c d hb hc
       . cases hb
 . exact⟨ρ',hv,m',x⟩
theorem EY {h:ab}{s:al}(hwr:h.length<=s.s.hp.length/\∀b,b<h.length->b∉s.wr->s.s.hp[b]? = h[b]?)(v:AV):eM h (eB v h.length s):=by
 unfold eB;have key:∀b,b<h.length->b∉s.wr.filter (· < h.length)->b∉s.wr:=by
  intro b hb hn hm;exact hn (List.mem_filter.2 ⟨hm,by simpa using hb⟩)
 split
 . refine⟨by have:=hwr.1;simp;omega,fun b hb hn=>?_⟩;show (s.s.hp.take h.length)[b]? = _;rw[List.getElem?_take,if_pos hb];exact hwr.2 b hb (key b hb hn)
 . exact⟨hwr.1,fun b hb hn=>hwr.2 b hb (key b hb hn)⟩
end Go.Ab
namespace Go.Ab
variable {P:Program} {gl:Nat->Option AV} {ρ:au} {w:World} {h:ab} {C:Cx} {s:St} {a:Act}
def sX:Ex->Exit
 | .normal=>.normal
 | .exit i=>.exit i
 | .ret=>.ret
structure jO (P:Program)(gl:Nat->Option AV)(run:an->al->Option (Ex×al)):Prop where
 wr:∀c s e s',run c s=some (e,s')->fg s s'
 ok:∀c s e s',run c s=some (e,s')->∀az N rd code,ff ⟨P,gl,az,N⟩ rd code=some c->∀ρ a w ro,Rel ⟨P,gl,az,N⟩ ρ s.s a w->DF ρ s.s.bA a.defers->(rd=false->ro=none) ->
  ∀Q:Exit->Act->World->Prop,(∀ρ' a' w',Rel ⟨P,gl,az,N⟩ ρ' s'.s a' w'->DF ρ' s'.s.bA a'.defers->Ext s.s.hp s'.s.hp ρ ρ' w w'->Q (sX e) a' w')->code.wpIn (FR ro) 0 P Q a w
def kr (P:Program)(gl:Nat->Option AV)(FT:FuncId->Option cK):Prop:=
 ∀f fi, FT f = some fi -> ∃fn az, P.funcs[f]? = some fn /\ (fn.name == "runtime.NumGoroutine") = false /\ sA P gl az fn = some fi
def dg (P:Program)(gl:Nat->Option AV)(ext:FuncId->List AV->ab->Option HR):Prop:=
 ∀f all h r,ext f all h=some r->eM h r/\∀ρ w (as':List Value),Mem P gl ρ h w->VL ρ w all as' ->
  ∃nx w1,(callFunc f as'.toArray).run P w = .ok nx w1/\iy P nx w1 fun v w'=>dP P gl ρ h w r v w'
theorem OK {az:List Nat}{fn:Func}{fi:cK}(h:sA P gl az fn=some fi) :
 ∃c,fn.body=some c/\ff ⟨P,gl,az,fn.ntmps⟩ false c=some fi.body/\jL ⟨P,gl,az,fn.ntmps⟩ fn.results.toList=some fi.results/\fi.az=az/\fi.N=fn.ntmps/\(∀t∈az,t<fn.ntmps)/\az.Nodup:=by
 unfold sA at h;simp only at h;split at h
 . cases h
 . rename_i c hc;split at h
   . rename_i b r h1 h2;split at h
     . rename_i hp;cases h;simp only[Bool.and_eq_true,List.all_eq_true,decide_eq_true_eq]at hp;exact⟨c,hc,h1,h2,rfl,rfl,hp.1,hp.2⟩
     . cases h
   . cases h
def sY (tmps:Array Value):ResultVar->Sem Value
 | .tmp t=>pure (tmps.getD t undef)
 | .cell p t=>do loadVar t (←asAddr (tmps.getD p undef))
theorem yq (r:Rel C ρ s a w):∀(l:List ResultVar) (cr:List fc) (vs:List AV),jL C l=some cr->cU s cr=some vs ->
 ∃m:List Value,(l.mapM (sY a.tmps)).run C.P w = .ok m w/\VL ρ w vs m
 | [],cr,vs,h1,h2=>by
  simp only[jL,Option.some.injEq]at h1;subst h1;simp only[cU,Option.some.injEq]at h2;subst h2;exact⟨[],by simp,.nil⟩
 | .tmp t::l,cr,vs,h1,h2=>by
  simp only[jL]at h1;split at h1
  . rename_i x l' hx hl;cases h1;simp only[cU]at h2;split at h2
    . rename_i v vs' hv hvs;cases h2;obtain⟨m,h3,h4⟩:=yq r l l' vs' hl hvs;refine⟨a.tmps.getD t undef::m,?_,.cons (r.aa hx hv) h4⟩;rw[List.mapM_cons];simp only[sY,Sem.run_bind,Sem.run_pure,Result.andThen_ok];rw[h3];rfl
    . cases h2
  . cases h1
 | .cell p t::l,cr,vs,h1,h2=>by
  simp only[jL]at h1;split at h1
  . rename_i x n ag l' hx hs hl;cases h1;simp only[cU]at h2;split at h2
    . rename_i v vs' hv hvs;cases h2;obtain⟨m,h3,h4⟩:=yq r l l' vs' hl hvs;simp only[Option.bind_eq_some_iff]at hv;obtain⟨px,g1,pl,g2,g3⟩:=hv;obtain⟨c,o,g,e1,e2⟩:=readable r.mem (r.aa hx g1) g2;obtain⟨v',e3,e4⟩:=Ej hs e2 g3;have e1':a.tmps.getD p undef = .pointer (some ⟨c,o,none⟩):=e1;refine⟨v'::m,?_,.cons e4 h4⟩;rw[List.mapM_cons];simp only[sY,Sem.run_bind,e1',asAddr,Sem.run_pure,Result.andThen_ok,e3];rw[h3];rfl
    . cases h2
  . cases h1
theorem OL {vs:List AV}{m:List Value}(h:VL ρ w vs m):V ρ w (aQ vs) (if h:m.toArray.size=1 then m.toArray[0] else .tuple m.toArray):=by
 match vs,m,h with
 | [],m,h=>rw[h.iM];exact V.gI .nil
 | [v],m,h=>
  obtain⟨y,m',rfl,h1,h2⟩:=h.cons_inv;rw[h2.iM];exact h1
 | v::u::vs,m,h=>
  obtain⟨y,m',rfl,h1,h2⟩:=h.cons_inv;obtain⟨z,m'',rfl,h3,h4⟩:=h2.cons_inv;rw[dif_neg (by simp)];exact V.gI (.cons h1 (.cons h3 h4))
theorem OM (r:Rel C ρ s a w){fn:Func}{cr:List fc}{vs:List AV}(h1:jL C fn.results.toList=some cr)(h2:cU s cr=some vs) :
 ∃v,(results fn a.tmps).run C.P w = .ok v w/\V ρ w (aQ vs) v:=by
 obtain⟨m,h3,h4⟩:=yq r fn.results.toList cr vs h1 h2;refine⟨_,?_,OL h4⟩;have e:results fn a.tmps=(do let vs ←fn.results.mapM (sY a.tmps);pure (if h:vs.size=1 then vs[0] else .tuple vs)):=by
  unfold results;congr 1
 rw[e,Sem.run_bind,Array.mapM_eq_mapM_toList,Sem.run_map,h3];rfl
theorem ON {az:List Nat}{N:Nat}{all:List AV}{as':List Value}(hv:VL ρ w all as')(hn:as'.length<=N)(hlt:∀t∈az,t<N)(hnd:az.Nodup) :
 ER ⟨P,gl,az,N⟩ ρ w (az.map fun t=>(all[t]?).getD bJ) [] (as'.toArray++Array.replicate (N-as'.toArray.size) undef):=by
 refine⟨by simp;omega,hnd,hlt,by simp,fun i v t h1 h2=>?_,fun _ _ hl=>by cases hl⟩;simp only[List.getElem?_map,Option.map_eq_some_iff]at h1;obtain⟨u,h3,rfl⟩:=h1;have h2':az[i]? = some t:=h2;rw[h3]at h2';obtain rfl:u=t:=Option.some.inj h2';rw[Array.getD_eq_getD_getElem?,Array.getElem?_append];split
 . rename_i hlt';have hl:u<as'.length:=by simpa using hlt'
   have hl2:u<all.length:=by rw[hv.length];exact hl
   have:=hv.2 u all[u] as'[u] (List.getElem?_eq_getElem hl2) (List.getElem?_eq_getElem hl);simpa[List.getElem?_eq_getElem hl2,List.getElem?_eq_getElem hl] using this
 . rename_i hge;have hl:as'.length<=u:=by simpa using hge
   have hl2:all.length<=u:=by rw[hv.length];exact hl
   rw[List.getElem?_eq_none hl2,Array.getElem?_replicate];split <;> exact V.undef
theorem EZ {run:an->al->Option (Ex×al)}(hrun:jO P gl run){FT:FuncId->Option cK}{f:FuncId}{all:List AV}{h:ab}{q:HR}(hq:gN run FT f all h=some q):eM h q:=by
 unfold gN at hq;split at hq <;> try (cases hq;done)
 split at hq <;> try (cases hq;done)
 split at hq <;> try (cases hq;done)
 rename_i e s hr;split at hq <;> try (cases hq;done)
 split at hq <;> try (cases hq;done)
 rename_i s2 ht;split at hq <;> try (cases hq;done)
 cases hq;have h1:=hrun.wr _ _ _ _ hr;have h2:=(yp _ _ _ ht).1;have h3:=h1.trans h2;exact EY ⟨h3.1,fun b hb hn=>h3.2.2 b hb hn⟩ _
theorem sZ {run:an->al->Option (Ex×al)}(hrun:jO P gl run){FT:FuncId->Option cK}(hFT:kr P gl FT){f:FuncId}{all:List AV}{h:ab}{q:HR}(hq:gN run FT f all h=some q)
 {as':List Value} (m:Mem P gl ρ h w) (hv:VL ρ w all as') :
 (callFunc f as'.toArray).run P w = .ok (.enter f as'.toArray) w/\CallsIn Fence.wide 0 P f as'.toArray w fun
   | .returned v,w'=>dP P gl ρ h w q v w'
   | _,_=>False:=by
 unfold gN at hq;split at hq <;> try (cases hq;done)
 rename_i fi hfi;obtain⟨fn,az,hfn,hname,hcf⟩:=hFT f fi hfi;obtain⟨c,hbody,hcode,hres,rfl,hN,hlt,hnd⟩:=OK hcf;split at hq <;> try (cases hq;done)
 rename_i hnl;split at hq <;> try (cases hq;done)
 rename_i e s hr;split at hq <;> try (cases hq;done)
 rename_i he;split at hq <;> try (cases hq;done)
 rename_i s2 ht;split at hq <;> try (cases hq;done)
 rename_i vs hvs;cases hq;refine⟨?_,?_⟩
 . have hne : fn.name ≠ "runtime.NumGoroutine" := by simpa using hname
   simp[callFunc,hfn,hne,hbody]
 . refine callsIn_of_wp_marks (F:=Fence.wide) (n:=0) hfn hbody trivial ?_;have hlen:as'.length<=fn.ntmps:=by rw[←hv.length];omega
   have er:=ON (P:=P) (gl:=gl) hv hlen hlt hnd;refine hrun.ok _ _ _ _ hr fi.az fn.ntmps false c hcode ρ _ w none ⟨er,m⟩ ⟨rfl,by simp⟩ (fun _=>rfl) _ ?_;intro ρ' a' w' r' d' x';have hfin:LeavesInM Fence.wide 0 P fn a'.tmps (fun
    | .returned v,w'=>dP P gl ρ h w (eB (aQ vs) h.length s2) v w'
    | _,_=>False) a'.defers .returning w':=by
    refine EW s.s.bA a'.defers s s2 w' d' r'.mem ht ?_;intro w2 m2 x2;have hx:=yp _ _ _ ht;have r2:Rel ⟨P,gl,fi.az,fn.ntmps⟩ ρ' s2.s a' w2:=⟨by rw[hx.2.1,hx.2.2];exact r'.er.mono x2,m2⟩;obtain⟨v,g1,g2⟩:=OM r2 hres hvs;have h3:=(hrun.wr _ _ _ _ hr).trans hx.1;exact⟨v,g1,EX m ⟨h3.1,fun b hb hn=>h3.2.2 b hb hn⟩ g2 m2 (x'.trans x2)⟩
   rcases he with rfl|rfl
   . exact hfin
   . exact hfin
end Go.Ab
namespace Go.Ab
variable {run:an->al->Option (Ex×al)}
variable {P:Program} {gl:Nat->Option AV} {ρ:au} {w:World} {h:ab} {C:Cx} {s:St} {a:Act}
theorem Fa {C:Cx}:∀(ts:List Tmp) (ds:List dU) (as:List AV) (as':List Value) (s s0:St) (tmps:Array Value),kf C ts=some ds->VL ρ w as as'->ER C ρ w s.pe s.lo tmps->mU s ds as=some s0 ->
 ts.length=as'.length/\ER C ρ w s0.pe s0.lo ((ts.zip as').foldl (fun tmps (t,a)=>tmps.setIfInBounds t a) tmps)/\s0.hp=s.hp/\s0.bA=s.bA
 | [],ds,as,as',s,s0,tmps,hd,hv,er,hq=>by
  cases hd;cases as with
  | nil=>cases hq;rw[hv.iM];exact⟨rfl,er,rfl,rfl⟩
  | cons _ _=>cases hq
 | t::ts,ds,as,as',s,s0,tmps,hd,hv,er,hq=>by
  simp only[kf]at hd;split at hd
  . rename_i d l h1 h2;cases hd;cases as with
    | nil=>cases hq
    | cons x as=>
     obtain⟨y,as',rfl,hy,hl⟩:=hv.cons_inv;simp only[mU]at hq;have er':=yb (s:=s) (a:=⟨tmps,[]⟩) (er:=er) h1 hy s.hp;have e:({ s.put d x with hp:=s.hp }:St)=s.put d x:=by cases d <;> rfl
     rw[e]at er';obtain⟨g1,g2,g3,g4⟩:=Fa ts l as as' (s.put d x) s0 _ h2 hl er' hq;exact⟨by simp[g1],g2,g3.trans (yk _ _ _),g4.trans (by cases d <;> rfl)⟩
  . cases hd
theorem tc {c:Nat}{r:Loop}(h:w.heap[c]? = some (.loop r)):(Instr.getLoop c).run P w = .ok r w:=by
 simp[Instr.getLoop,km h]
theorem td (m:Mem P gl ρ h w){b:Nat}{st:LoopState}{pend:Option Ex}{pe:List AV}{ps:List dU}{as bd:an}(hb:h.at b=some (.loop st pend pe ps as bd)) :
 h[b]? = some (some (.loop st pend pe ps as bd))/\∃c r az N,ρ b = .live c 0/\w.heap[c]? = some (.loop r)/\r.state=st/\lF pend r.pending /\
  ER ⟨P,gl,az,N⟩ ρ w pe [] r.tmps/\kf ⟨P,gl,az,N⟩ r.params.toList=some ps/\ff ⟨P,gl,az,N⟩ true r.assign=some as/\ff ⟨P,gl,az,N⟩ true r.body=some bd:=
 ⟨nj hb,m.cF b _ (nj hb)⟩
theorem yr (m:Mem P gl ρ h w){b c:Nat}{o0:bc}(h0:h[b]? = some (some o0))(hρ:ρ b = .live c 0){r:Loop}(hr:w.heap[c]? = some (.loop r))(r':Loop){st':LoopState}{pend':Option Ex}{pe:List AV}{ps:List dU}{as bd:an}{az:List Nat}{N:Nat}
 (hst:r'.state=st') (hp:lF pend' r'.pending) (er:ER ⟨P,gl,az,N⟩ ρ w pe [] r'.tmps) (h1:kf ⟨P,gl,az,N⟩ r'.params.toList=some ps) (h2:ff ⟨P,gl,az,N⟩ true r'.assign=some as) (h3:ff ⟨P,gl,az,N⟩ true r'.body=some bd) :
 Mem P gl ρ (h.put b (some (.loop st' pend' pe ps as bd))) (w.cP c (.loop r'))/\Ext h (h.put b (some (.loop st' pend' pe ps as bd))) ρ ρ w (w.cP c (.loop r')):=by
 have hO:∀cs0 e0 fr0,w.heap[c]? = some (.cells cs0 e0 fr0)->∃cs' fr',Obj.loop r' = .cells cs' e0 fr'/\cs'.size=cs0.size:=by
  intro _ _ _ hq';rw[hr]at hq';cases hq'
 have x:=Ext.write m h0 hρ (some (.loop st' pend' pe ps as bd)) (.loop r') hO;refine⟨Mem.write m h0 hρ _ _ hO ?_,x⟩;intro o' ho;cases ho;exact⟨c,r',az,N,hρ,lG (m.bound _ _ _ hρ),hst,hp,er.mono x,h1,h2,h3⟩
def ku (run:an->al->Option (Ex×al))(b:Nat)(as:List AV)(h:ab):Option HR:=
 match h.at b with
 | some (.loop .ready none pe ps a bd)=>
  match mU ⟨pe,[],h,[]⟩ ps as with
  | some s0=>match run a ⟨s0,[]⟩ with
    | some (.normal,s1)=>match s1.s.hp.at b with
      | some (.loop .ready none pe' ps' a' bd')=>
       match run bd ⟨{ s1.s with hp:=s1.s.hp.put b (some (.loop .busy none pe' ps' a' bd')) },b::s1.wr⟩ with
       | some (e,s2)=>match s2.s.hp.at b,s2.s.bA with
         | some (.loop .busy none pe' ps' a' bd'),[]=>
          some (eB (.bool (decide (e = .normal))) h.length ⟨{ s2.s with hp:=s2.s.hp.put b (some (if e = .normal then .loop .ready none pe' ps' a' bd' else .loop .done (some e) pe' ps' a' bd')) },b::s2.wr⟩)
         | _,_=>none
       | none=>none
      | _=>none
    | _=>none
  | none=>none
 | _=>none
theorem tf (s:al)(b:Nat)(o:Option bc):fg s ⟨{ s.s with hp:=s.s.hp.put b o },b::s.wr⟩:=
 ⟨by simp[ab.put],fun _ hb=>List.mem_cons_of_mem _ hb,fun b' _ hn=>by
  simp only[List.mem_cons,not_or]at hn;exact jl hn.1⟩
theorem Fb:∀(ds:List dU) (as:List AV) (s s0:St),mU s ds as=some s0->s0.hp=s.hp
 | [],[],s,s0,h=>by cases h;rfl
 | [],_::_,s,s0,h=>by cases h
 | _::_,[],s,s0,h=>by cases h
 | d::ds,v::as,s,s0,h=>(Fb ds as _ s0 h).trans (yk _ _ _)
theorem OO (hrun:jO P gl run){b:Nat}{as:List AV}{h:ab}{q:HR}(hq:ku run b as h=some q):eM h q:=by
 unfold ku at hq;split at hq <;> try (cases hq;done)
 split at hq <;> try (cases hq;done)
 rename_i s0 hp;split at hq <;> try (cases hq;done)
 rename_i s1 hr1;split at hq <;> try (cases hq;done)
 split at hq <;> try (cases hq;done)
 rename_i e s2 hr2;split at hq <;> try (cases hq;done)
 rename_i pe2 ps2 ai2 bi2 hb2 hd2;cases hq;have h1:=hrun.wr _ _ _ _ hr1;have h2:=hrun.wr _ _ _ _ hr2;have h3:=(h1.trans (tf s1 b _)).trans h2;have h4:=h3.trans (tf s2 b (some (if e = .normal then .loop .ready none pe2 ps2 ai2 bi2 else .loop .done (some e) pe2 ps2 ai2 bi2)));have hhp:=Fb _ _ _ _ hp;refine EY ⟨?_,?_⟩ _
 . have:=h4.1;rw[show (al.mk s0 []).s.hp=h from hhp]at this;exact this
 . intro b' hb' hn;have:=h4.2.2 b' (by rw[show (al.mk s0 []).s.hp=h from hhp];exact hb') hn;rw[show (al.mk s0 []).s.hp=h from hhp]at this;exact this
theorem OP (l:Nat):Fence.wide.inRound l=FR (some l):=rfl
theorem OQ (hrun:jO P gl run){b:Nat}{as:List AV}{h:ab}{q:HR}(hq:ku run b as h=some q)(m:Mem P gl ρ h w){g':Value}(hg:V ρ w (.fn (.yield b) [] []) g')
 {as':List Value} (hv:VL ρ w as as'):∃nx w1,(lJ g' as'.toArray).run P w = .ok nx w1/\iy P nx w1 fun v w'=>dP P gl ρ h w q v w':=by
 have hq0:=hq;unfold ku at hq;split at hq <;> try (cases hq;done)
 rename_i pe ps ai bi hb;split at hq <;> try (cases hq;done)
 rename_i s0 hp;split at hq <;> try (cases hq;done)
 rename_i s1 hr1;split at hq <;> try (cases hq;done)
 rename_i pe1 ps1 ai1 bi1 hb1;split at hq <;> try (cases hq;done)
 rename_i e s2 hr2;split at hq <;> try (cases hq;done)
 rename_i pe2 ps2 ai2 bi2 hb2 hd2;cases hq;obtain⟨h0,c,r,az,N,g1,g2,g3,g4,g5,g6,g7,g8⟩:=td m hb;have hge:g' = .func (.yield c) #[] #[]:=by
  cases hg with
  | yield hρ=>rw[g1]at hρ;cases hρ;rfl
  | fn hf=>exact absurd rfl (hf _)
  | fU _ hρ=>rw[g1]at hρ;cases hρ
 subst hge;obtain⟨p1,p2,p3,p4⟩:=Fa (C:=⟨P,gl,az,N⟩) r.params.toList ps as as' ⟨pe,[],h,[]⟩ s0 r.tmps g6 hv g5 hp;have hsz:as'.toArray.size=r.params.size:=by simpa using p1.symm
 let tm:=(r.params.zip as'.toArray).foldl (fun tmps (t,a)=>tmps.setIfInBounds t a) r.tmps
 have htm:tm=(r.params.toList.zip as').foldl (fun tmps (t,a)=>tmps.setIfInBounds t a) r.tmps:=by
  simp only[tm,←Array.foldl_toList,Array.toList_zip]
 refine⟨.round c r.fn tm r.assign r.body,w,?_,?_⟩
 . simp only[lJ,Deferred.ofValue,invoke,Sem.run_bind,Sem.run_pure,Result.andThen_ok,Instr.yield];rw[tc g2];simp[hsz,tm]
 . refine roundIn_of_wpIn (F:=Fence.wide) (n:=0) trivial ?_;rw[OP];have w1:=hrun.wr _ _ _ _ hr1;have w2:=hrun.wr _ _ _ _ hr2;refine hrun.ok ai ⟨s0,[]⟩ .normal s1 hr1 az N true r.assign g7 ρ ⟨tm,[]⟩ w (some c) ⟨by rw[htm];exact p2,by rw[show (al.mk s0 []).s.hp=h from p3];exact m⟩ ⟨by rw[p4];rfl,fun i b d hi _=>by rw[p4]at hi;simp at hi⟩ (by simp) _ ?_;intro ρ1 a1 v1 r1 d1 x1;rw[show (al.mk s0 []).s.hp=h from p3]at x1;obtain⟨h1',c1,rr1,pers1,N1,k1,k2,k3,k4,k5,k6,k7,k8⟩:=td r1.mem hb1;have hc1:c1=c:=by
    rcases x1.live b c 0 g1 with hh|hh
    . rw[k1]at hh;cases hh;rfl
    . rw[k1]at hh;cases hh
   subst hc1;obtain⟨m2,x2⟩:=yr (st':=.busy) r1.mem h1' k1 k2 { rr1 with state:=.busy } rfl k4 k5 k6 k7 k8;refine⟨v1.cP c1 (.loop { rr1 with state:=.busy }),?_,?_⟩
   . simp[Instr.beginRound,tc k2,lI k2,k3]
   . refine hrun.ok bi _ e s2 hr2 az N true r.body g8 ρ1 a1 _ (some c1) ⟨r1.er.mono x2,m2⟩ (d1.mono x2) (by simp) _ ?_;intro ρ2 a2 v2 r2 d2 x3;obtain⟨h2',c2,rr2,pers2,N2,l1,l2,l3,l4,l5,l6,l7,l8⟩:=td r2.mem hb2;have hc2:c2=c1:=by
      rcases x3.live b c1 0 k1 with hh|hh
      . rw[l1]at hh;cases hh;rfl
      . rw[l1]at hh;cases hh
     subst hc2;have fin:∀(jump:Option Code) (st':LoopState) (pend':Option Ex),lF pend' jump->(if jump.isNone then LoopState.ready else LoopState.done)=st'->jump.isNone=decide (e = .normal) ->
      (if e = .normal then bc.loop .ready none pe2 ps2 ai2 bi2 else .loop .done (some e) pe2 ps2 ai2 bi2) = .loop st' pend' pe2 ps2 ai2 bi2 ->
      ∃v w',(Instr.endRound c2 jump).run P v2 = .ok v w'/\dP P gl ρ h w (eB (.bool (decide (e = .normal))) h.length ⟨{ s2.s with hp:=s2.s.hp.put b (some (if e = .normal then .loop .ready none pe2 ps2 ai2 bi2 else .loop .done (some e) pe2 ps2 ai2 bi2)) },b::s2.wr⟩) v w':=by
      intro jump st' pend' q1 q2 q3 q4;obtain⟨m4,x4⟩:=yr (st':=st') (pend':=pend') r2.mem h2' l1 l2 { rr2 with state:=if jump.isNone then .ready else .done,pending:=jump } q2 q1 l5 l6 l7 l8;refine⟨.bool jump.isNone,v2.cP c2 (.loop { rr2 with state:=if jump.isNone then .ready else .done,pending:=jump }),?_,?_⟩
      . simp[Instr.endRound,tc l2,lI l2]
      . have h3:=(w1.trans (tf s1 b (some (.loop .busy none pe1 ps1 ai1 bi1)))).trans w2;have h4:=h3.trans (tf s2 b (some (if e = .normal then .loop .ready none pe2 ps2 ai2 bi2 else .loop .done (some e) pe2 ps2 ai2 bi2)));refine EX (ρ':=ρ2) m ⟨?_,?_⟩ (by rw[q3];exact .bool _) (by rw[q4];exact m4) (by rw[q4];exact((x1.trans x2).trans x3).trans x4)
        . have:=h4.1;rw[show (al.mk s0 []).s.hp=h from p3]at this;exact this
        . intro b' hb' hn;have:=h4.2.2 b' (by rw[show (al.mk s0 []).s.hp=h from p3];exact hb') hn;rw[show (al.mk s0 []).s.hp=h from p3]at this;exact this
     cases e with
     | normal=>exact fin none .ready none trivial rfl (by simp) (by simp)
     | ret=>exact fin (some .ret) .done (some .ret) trivial rfl (by simp) (by simp)
     | exit i=>exact fin (some (.exit i)) .done (some (.exit i)) rfl rfl (by simp) (by simp)
theorem yt (hrun:jO P gl run){ext:FuncId->List AV->ab->Option HR}(hext:dg P gl ext){FT:FuncId->Option cK}(hFT:kr P gl FT):kp P gl (fN run ext FT):=by
 have round_eq:∀b as h,fN run ext FT (.fn (.yield b) [] []) as h=ku run b as h:=fun _ _ _=>rfl
 refine⟨fun g as h r hq=>?_,fun g as h r hq ρ w g' as' m hg hv=>?_⟩
 . cases g <;> try (cases hq;done)
   rename_i f fi ca;cases f <;> try (cases hq;done)
   . simp only[fN]at hq;split at hq
     . rename_i q hq1;cases hq;exact(hext _ _ _ _ hq1).1
     . exact EZ hrun hq
   . cases fi <;> cases ca <;> try (cases hq;done)
     exact OO hrun hq
 . cases g <;> try (cases hq;done)
   rename_i f fi ca;cases f <;> try (cases hq;done)
   . rename_i f;cases hg with
     | @fn _ _ _ fi' ca' hf h1 h2 g1 g2=>
      have hall:VL ρ w (fi++as++ca) (fi'++as'++ca'):=(VL.append ⟨h1,g1⟩ hv).append ⟨h2,g2⟩;have happ:∀(nx:Next) (w1:World),(callFunc f (fi'++as'++ca').toArray).run P w = .ok nx w1->(lJ (.func (.func f) fi'.toArray ca'.toArray) as'.toArray).run P w = .ok nx w1:=by
       intro nx w1 hc;simp only[lJ,Deferred.ofValue,invoke,Sem.run_bind,Sem.run_pure,Result.andThen_ok];rw[←hc];congr 2;simp
      simp only[fN]at hq;split at hq
      . rename_i q hq1;cases hq;obtain⟨nx,w1,h3,h4⟩:=(hext _ _ _ _ hq1).2 ρ w _ m hall;exact⟨nx,w1,happ _ _ h3,h4⟩
      . obtain⟨h3,h4⟩:=sZ hrun hFT hq m hall;exact⟨_,_,happ _ _ h3,h4⟩
   . cases fi <;> cases ca <;> try (cases hq;done)
     exact OQ hrun hq m hg hv
end Go.Ab
namespace Go.Ab
variable {P:Program} {gl:Nat->Option AV} {ρ:au} {w:World} {h:ab} {s:St} {a:Act} {ext:FuncId->List AV->ab->Option HR} {FT:FuncId->Option cK}
theorem OR (hext:dg P gl ext)(hFT:kr P gl FT):∀n,(∀k,k<n->jO P gl (aV ext (dY P) FT k))->∀c s e s',aV ext (dY P) FT n c s=some (e,s')->fg s s':=by
 intro n;cases n with
 | zero=>intro _ c s e s' hq;cases hq
 | succ n=>
  intro ih c s e s' hq;have ihn:=ih n (by omega);have hcall:=(yt ihn hext hFT).wr;cases c <;> simp only[aV]at hq
  case skip=>cases hq;exact .refl _
  case region ops=>
   split at hq
   . rename_i s1 hr;cases hq;exact(fg.same (s:=s) (x:={ s.s with lo:=[] }) rfl).trans (yl hcall _ _ _ hr)
   . cases hq
  case draw ops=>
   split at hq
   . rename_i s1 hr;cases hq;exact(fg.same (s:=s) (x:={ s.s with lo:=[] }) rfl).trans (OJ hcall hr)
   . cases hq
  case seq x y=>
   split at hq
   . rename_i s1 hr;exact(ihn.wr _ _ _ _ hr).trans (ihn.wr _ _ _ _ hq)
   . exact ihn.wr _ _ _ _ hq
  case cond x p q=>
   split at hq
   . exact ihn.wr _ _ _ _ hq
   . cases hq
  case block id x=>
   split at hq
   . rename_i s1 hr;split at hq <;> (cases hq;exact ihn.wr _ _ _ _ hr)
   . exact ihn.wr _ _ _ _ hq
  case loop x=>
   split at hq
   . rename_i s1 hr;exact(ihn.wr _ _ _ _ hr).trans (ihn.wr _ _ _ _ hq)
   . exact ihn.wr _ _ _ _ hq
  case exit id=>cases hq;exact .refl _
  case ret=>cases hq;exact .refl _
  case rangeFunc inner f ps as bd=>
   split at hq
   . cases hq
   . split at hq
     . split at hq
       . rename_i r hr;split at hq
         . split at hq
           . cases hq
           . cases hq;have h1:=EZ ihn hr;refine⟨?_,fun b hb=>by simp;exact .inr (.inr hb),fun b hb hn=>?_⟩
             . have:=h1.1;simp only[List.length_append,List.length_cons,List.length_nil]at this;simp[ab.put];omega
             . simp only[List.cons_append,List.mem_cons,List.mem_append,not_or]at hn;show (r.h.set _ _)[b]? = _;rw[jl hn.1,h1.2 b (by simp;omega) hn.2.1,List.getElem?_append_left hb]
         . cases hq
       . cases hq
     . cases hq
  case bad=>cases hq
theorem yu {p:Nat->Prop}(h:∃n,p n):∃n,p n/\∀m,p m->n<=m:=by
 obtain⟨n,hn⟩:=h;induction n using Nat.strongRecOn with
 | _ n ih=>
  rcases Classical.em (∃m,m<n/\p m) with ⟨m,hm,hp⟩|hno
  . exact ih m hm hp
  . refine⟨n,hn,fun m hm=>?_⟩;rcases Nat.lt_or_ge m n with hlt|hge
    . exact absurd ⟨m,hlt,hm⟩ hno
    . exact hge
open Classical in
theorem OS {n:Nat}{az:List Nat}{N:Nat}{rd:Bool}{code:Code}{c:an}(hcode:ff ⟨P,gl,az,N⟩ rd code=some c)(ih:∀k,k<n->jO P gl (aV ext (dY P) FT k)){s s':al}{e:Ex}(hq:aV ext (dY P) FT n (.loop c) s=some (e,s'))
 {ro:Option Nat} (r:Rel ⟨P,gl,az,N⟩ ρ s.s a w) (d:DF ρ s.s.bA a.defers) (hrd:rd=false->ro=none) {Q:Exit->Act->World->Prop}
 (hQ:∀ρ' a' w',Rel ⟨P,gl,az,N⟩ ρ' s'.s a' w'->DF ρ' s'.s.bA a'.defers->Ext s.s.hp s'.s.hp ρ ρ' w w'->Q (sX e) a' w'):(Code.loop code).wpIn (FR ro) 0 P Q a w:=by
 let At:Nat->Act->World->Prop:=fun m a1 w1=>m<=n/\∃(s1:al) (ρ1:au),aV ext (dY P) FT m (.loop c) s1=some (e,s')/\Rel ⟨P,gl,az,N⟩ ρ1 s1.s a1 w1/\DF ρ1 s1.s.bA a1.defers/\Ext s.s.hp s1.s.hp ρ ρ1 w w1
 let I:Act->World->Prop:=fun a1 w1=>∃m,At m a1 w1
 let μ:Act->World->Nat:=fun a1 w1=>if h:∃m,At m a1 w1 then Classical.choose (yu h) else 0
 have hμ:∀a1 w1 m,At m a1 w1->μ a1 w1<=m:=by
  intro a1 w1 m hm;have hex:∃m,At m a1 w1:=⟨m,hm⟩;simp only[μ,dif_pos hex];exact(Classical.choose_spec (yu hex)).2 m hm
 refine wpIn_loop I μ ⟨n,Nat.le_refl _,s,ρ,hq,r,d,Ext.refl _ _ _⟩ ?_;intro a1 w1 hI;have hμe:At (μ a1 w1) a1 w1:=by
  have hI':∃m,At m a1 w1:=hI;simp only[μ,dif_pos hI'];exact(Classical.choose_spec (yu hI')).1
 obtain⟨hle,s1,ρ1,hq1,r1,d1,x1⟩:=hμe;generalize hm:μ a1 w1=m at *
 cases m with
 | zero=>cases hq1
 | succ m=>
  have ihm:=ih m (by omega);simp only[aV]at hq1;cases hr:aV ext (dY P) FT m c s1 with
  | none=>rw[hr]at hq1;cases hq1
  | some p=>
   obtain⟨e2,s2⟩:=p;rw[hr]at hq1;refine ihm.ok c s1 e2 s2 hr az N rd code hcode ρ1 a1 w1 ro r1 d1 hrd _ ?_;intro ρ2 a2 w2 r2 d2 x2;cases e2 with
   | normal=>
    simp only at hq1;have hat:At m a2 w2:=⟨by omega,s2,ρ2,hq1,r2,d2,x1.trans x2⟩;exact⟨⟨m,hat⟩,by have:=hμ a2 w2 m hat;omega⟩
   | exit i=>cases hq1;exact hQ ρ2 a2 w2 r2 d2 (x1.trans x2)
   | ret=>cases hq1;exact hQ ρ2 a2 w2 r2 d2 (x1.trans x2)
end Go.Ab
namespace Go.Ab
variable {P:Program} {gl:Nat->Option AV} {ρ:au} {w:World} {h:ab} {s:St} {a:Act} {ext:FuncId->List AV->ab->Option HR} {FT:FuncId->Option cK}
theorem OT {C:Cx}{ops:List Oper}{draw:Bool}{c:an}(h:sy C ops draw=some c):∃il,iL C ops ops=some il /\
 ((draw=false/\c = .region il)\/(draw=true/\∃bits,mX ops bits=true/\mY il bits=true/\c = .draw (il.zipIdx.map fun (o,i)=>(o,ix (bits.getD i 0) i)))):=by
 unfold sy at h;split at h
 . cases h
 . rename_i il hil;refine⟨il,hil,?_⟩;split at h
   . rename_i hd;simp only at h;split at h
     . rename_i hb;simp only[Bool.and_eq_true]at hb;cases h;exact .inr ⟨hd,_,hb.1,hb.2,rfl⟩
     . cases h
   . rename_i hd;cases h;exact .inl ⟨by simpa using hd,rfl⟩
theorem OU {fn:FuncId}{tmps:Array Value}{ps:Array Tmp}{as bd:Code}:(Instr.enterLoop fn tmps ps as bd none).run P w =
 .ok (w.heap.size+1,[{ target:=.collected w.heap.size,args:=#[] }])
   { w with heap:=(w.heap.push (.deferred (some []))).push (.loop { state:=.ready,pending:=none,fn,tmps,params:=ps,assign:=as,body:=bd,defers:=w.heap.size }) }:=by
 simp[Instr.enterLoop];rfl
theorem OV {n:Nat}(ihn:jO P gl (aV ext (dY P) FT n))(hFT:kr P gl FT){az:List Nat}{N:Nat}{g:Operand}{ps:Array Tmp}{as bd:Code}{fi:ax}{dps:List dU}{ai bi:an}
 (hg:fE ⟨P,gl,az,N⟩ g=some fi) (hps:kf ⟨P,gl,az,N⟩ ps.toList=some dps) (has:ff ⟨P,gl,az,N⟩ true as=some ai) (hbd:ff ⟨P,gl,az,N⟩ true bd=some bi)
 {s s':al} {e:Ex} (hq:aV ext (dY P) FT (n+1) (.rangeFunc false fi dps ai bi) s=some (e,s')) (r:Rel ⟨P,gl,az,N⟩ ρ s.s a w) (d:DF ρ s.s.bA a.defers) {Q:Exit->Act->World->Prop}
 (hQ:∀ρ' a' w',Rel ⟨P,gl,az,N⟩ ρ' s'.s a' w'->DF ρ' s'.s.bA a'.defers->Ext s.s.hp s'.s.hp ρ ρ' w w'->Q (sX e) a' w'):(Code.rangeFunc g ps as bd).wpIn (FR none) 0 P Q a w:=by
 simp only[aV,Bool.false_eq_true,if_false]at hq;split at hq <;> try (cases hq;done)
 rename_i gf l1 l2 hgv;split at hq <;> try (cases hq;done)
 rename_i q hcall;split at hq <;> try (cases hq;done)
 rename_i st pend pe' ps' a' b' hb;split at hq <;> try (cases hq;done)
 rename_i hst;cases hq;have hgV:=r.aa hg hgv;generalize hge:a.eval g=gv at hgV;cases hgV with
 | @fn _ _ _ fi' ca' hf h1 h2 g1 g2=>
  refine wpIn_rangeFunc fun fnId _=>?_
  have x1:=Ext.alloc r.mem (some .fA) (.deferred (some [])) (.live w.heap.size 0) (.inl ⟨0,rfl⟩);have m1:=Mem.alloc r.mem (some .fA) (.deferred (some [])) (.live w.heap.size 0) (.inl ⟨0,rfl⟩) (by
   intro o' ho;cases ho;exact⟨w.heap.size,au.dm _ _ _,by simp⟩)
  generalize hρ1:ρ.dj s.s.hp.length (.live w.heap.size 0)=ρ1 at *
  generalize hw1:({ w with heap:=w.heap.push (.deferred (some [])) }:World)=v1 at *
  have hv1s:v1.heap.size=w.heap.size+1:=by rw[←hw1];simp
  let rec0:Loop:={ state:=.ready,pending:=none,fn:=fnId,tmps:=a.tmps,params:=ps,assign:=as,body:=bd,defers:=w.heap.size }
  have hl1:(s.s.hp++[some bc.fA]).length=s.s.hp.length+1:=by simp
  have x2:=Ext.alloc m1 (some (.loop .ready none s.s.pe dps ai bi)) (.loop rec0) (.live v1.heap.size 0) (.inl ⟨0,rfl⟩);have er1:ER ⟨P,gl,az,N⟩ ρ1 v1 s.s.pe [] a.tmps:=⟨r.er.size,r.er.nodup,r.er.lt,r.er.jk,fun i v t hv ht=>(r.er.pe i v t hv ht).mono x1,fun _ _ hl=>by cases hl⟩;have m2:=Mem.alloc m1 (some (.loop .ready none s.s.pe dps ai bi)) (.loop rec0) (.live v1.heap.size 0) (.inl ⟨0,rfl⟩) (by
   intro o' ho;cases ho;exact⟨v1.heap.size,rec0,az,N,au.dm _ _ _,by simp,rfl,trivial,er1.mono x2,hps,has,hbd⟩)
  rw[hl1]at x2 m2;have happ:s.s.hp++[some bc.fA]++[some (.loop .ready none s.s.pe dps ai bi)]=s.s.hp++[some bc.fA,some (.loop .ready none s.s.pe dps ai bi)]:=by simp
  rw[happ]at x2 m2;generalize hρ2:ρ1.dj (s.s.hp.length+1) (.live v1.heap.size 0)=ρ2 at *
  generalize hw2:({ v1 with heap:=v1.heap.push (.loop rec0) }:World)=v2 at *
  have x12:=x1.trans x2;have hyield:V ρ2 v2 (.fn (.yield (s.s.hp.length+1)) [] []) (.func (.yield (w.heap.size+1)) #[] #[]):=by
   rw[←hv1s];exact .yield (d:=0) (by rw[←hρ2];exact au.dm _ _ _)
  have hall:VL ρ2 v2 (l1++[.fn (.yield (s.s.hp.length+1)) [] []]++l2) (fi'++[.func (.yield (w.heap.size+1)) #[] #[]]++ca'):=by
   have e1:VL ρ2 v2 l1 fi':=VL.mono x12 ⟨h1,g1⟩;have e2:VL ρ2 v2 l2 ca':=VL.mono x12 ⟨h2,g2⟩;exact(e1.append (.cons hyield .nil)).append e2
  obtain⟨hcf,hcalls⟩:=sZ ihn hFT hcall m2 hall;refine⟨w.heap.size+1,[{ target:=.collected w.heap.size,args:=#[] }],v2,{ target:=.fn (.func gf) ca'.toArray,args:=fi'.toArray ++ #[.func (.yield (w.heap.size+1)) #[] #[]] },v2,gf,
   (fi'++[Value.func (.yield (w.heap.size+1)) #[] #[]]++ca').toArray,v2,?_,?_,fun _ _=>trivial,?_,fun hd=>(by cases hd),?_⟩
  . rw[show (FR none).round=none from rfl,OU,←hw2,←hw1]
  . have e:resolve a.eval (rangeCall g (w.heap.size+1)) 0=Deferred.ofValue (a.eval g) #[.func (.yield (w.heap.size+1)) #[] #[]]:=by
     simp[resolve,Act.eval]
    rw[e,hge];rfl
  . simp only[invoke];rw[←hcf];congr 2;simp
  . refine CallsIn.mono (F:=Fence.wide) (n:=0) hcalls ?_;intro en w3 hen;cases en with
    | panicked _=>exact hen.elim
    | outgrown=>exact hen.elim
    | returned v=>
     obtain⟨ρ3,hv3,m3,x3⟩:=hen;obtain⟨h0',c,rr,pers',N',k1,k2,k3,k4,k5,k6,k7,k8⟩:=td m3 hb;have hc:c=w.heap.size+1:=by
      have hl:ρ2 (s.s.hp.length+1) = .live (w.heap.size+1) 0:=by rw[←hρ2,←hv1s];exact au.dm _ _ _
      rcases x3.live _ _ _ hl with hh|hh
      . rw[k1]at hh;cases hh;rfl
      . rw[k1]at hh;cases hh
     subst hc;obtain⟨m4,x4⟩:=yr (st':=.exhausted) (pend':=pend) m3 h0' k1 k2 { rr with state:=.exhausted } rfl k4 k5 k6 k7 k8;have xx:=(x12.trans x3).trans x4;refine⟨rr.pending,w3.cP (w.heap.size+1) (.loop { rr with state:=.exhausted }),?_,?_⟩
     . have hnb:(rr.state == LoopState.busy)=false:=by rw[k3];simpa using hst
       simp only[Instr.endLoop,Sem.run_bind,tc k2,Result.andThen_ok,hnb,Bool.false_eq_true,if_false,Sem.run_pure,lI k2 (by simp)]
     . have hrel:Rel ⟨P,gl,az,N⟩ ρ3 { s.s with hp:=q.h.put (s.s.hp.length+1) (some (.loop .exhausted pend pe' ps' a' b')),bA:=s.s.hp.length::s.s.bA } { a with defers:=[{ target:=.collected w.heap.size,args:=#[] }]++a.defers } (w3.cP (w.heap.size+1) (.loop { rr with state:=.exhausted })):=
        ⟨(r.er.mono xx:ER ⟨P,gl,az,N⟩ ρ3 _ s.s.pe s.s.lo a.tmps),m4⟩
       have hdf:DF ρ3 (s.s.hp.length::s.s.bA) ([{ target:=.collected w.heap.size,args:=#[] }]++a.defers):=by
        have hl:ρ1 s.s.hp.length = .live w.heap.size 0:=by rw[←hρ1];exact au.dm _ _ _
        have d1:DF ρ1 (s.s.hp.length::s.s.bA) ([{ target:=.collected w.heap.size,args:=#[] }]++a.defers):=by
         have d0:=d.mono x1;refine⟨by simp[d0.1],fun i b dd hi hi'=>?_⟩;cases i with
         | zero=>simp at hi hi';subst hi;subst hi';exact⟨_,rfl,.inl hl⟩
         | succ i=>exact d0.2 i b dd (by simpa using hi) (by simpa using hi')
        exact((d1.mono x2).mono x3).mono x4
       have hfin:=hQ ρ3 _ _ hrel hdf xx;have key:∀(W:World) (a':Act) (jp:Option Code),lF pend jp->Q (sX (pend.getD .normal)) a' W->(match jp with|none=>Q .normal a' W|some c=>c.wpIn (FR none) 0 P Q a' W):=by
        intro W a' jp k4 hfin;cases pend with
        | none=>
         cases jp with
         | none=>exact hfin
         | some _=>exact k4.elim
        | some e1=>
         cases e1 with
         | normal=>cases jp <;> exact k4.elim
         | exit i=>
          cases jp with
          | none=>exact k4.elim
          | some cc=>
           cases cc <;> simp only[lF]at k4;subst k4;exact wpIn_exit hfin
         | ret=>
          cases jp with
          | none=>exact k4.elim
          | some cc=>
           cases cc <;> simp only[lF]at k4;exact wpIn_ret hfin
       exact key _ _ _ k4 hfin
theorem yw (hmix:P.follows .mixedOrders=true)(hext:dg P gl ext)(hFT:kr P gl FT):∀n,jO P gl (aV ext (dY P) FT n):=by
 intro n;induction n using Nat.strongRecOn with
 | _ n ih=>
  refine⟨OR hext hFT n ih,?_⟩;cases n with
  | zero=>intro c s e s' hq;cases hq
  | succ n=>
   have ihn:=ih n (by omega);have hcall:=yt ihn hext hFT;intro c s e s' hq az N rd code hcode ρ a w ro r d hrd Q hQ;cases code <;> simp only[ff]at hcode
   case skip=>
    cases hcode;simp only[aV,Option.some.injEq,Prod.mk.injEq]at hq;obtain⟨rfl,rfl⟩:=hq;exact wpIn_skip (hQ ρ a w r d (Ext.refl _ _ _))
   case label l=>
    cases hcode;simp only[aV,Option.some.injEq,Prod.mk.injEq]at hq;obtain⟨rfl,rfl⟩:=hq;exact wpIn_label (hQ ρ a w r d (Ext.refl _ _ _))
   case exit id=>
    cases hcode;simp only[aV,Option.some.injEq,Prod.mk.injEq]at hq;obtain⟨rfl,rfl⟩:=hq;exact wpIn_exit (hQ ρ a w r d (Ext.refl _ _ _))
   case ret=>
    cases hcode;simp only[aV,Option.some.injEq,Prod.mk.injEq]at hq;obtain⟨rfl,rfl⟩:=hq;exact wpIn_ret (hQ ρ a w r d (Ext.refl _ _ _))
   case region id ops draw=>
    simp only[Option.some.injEq]at hcode;cases hc:sy ⟨P,gl,az,N⟩ ops.toList draw with
    | none=>rw[hc]at hcode;simp at hcode;subst hcode;simp[aV]at hq
    | some c'=>
     rw[hc]at hcode;simp at hcode;subst hcode;obtain⟨il,hil,hor⟩:=OT hc;rcases hor with ⟨rfl,rfl⟩|⟨rfl,bits,hb1,hb2,rfl⟩
     . simp only[aV]at hq;split at hq
       . rename_i s1 hr;cases hq;have hdfs:=yn _ _ _ hr;refine Ou hcall hil r hr ?_;intro ρ' a' w' r' x' hd';refine hQ ρ' a' w' r' ?_ x';rw[hdfs,hd'];exact d.mono x'
       . cases hq
     . simp only[aV]at hq;split at hq
       . rename_i s1 hr;cases hq;refine OG hcall hmix hcall.wr hil hb1 hb2 r hr ?_;intro ρ' a' w' r' x' hd' hdfs;refine hQ ρ' a' w' r' ?_ x';rw[hdfs,hd'];exact d.mono x'
       . cases hq
   case seq x y=>
    split at hcode
    . rename_i cx cy hx hy;cases hcode;simp only[aV]at hq;refine wpIn_seq ?_;cases hr:aV ext (dY P) FT n cx s with
      | none=>rw[hr]at hq;cases hq
      | some p=>
       obtain⟨e1,s1⟩:=p;rw[hr]at hq;refine ihn.ok cx s e1 s1 hr az N rd x hx ρ a w ro r d hrd _ ?_;intro ρ1 a1 w1 r1 d1 x1;cases e1 with
       | normal=>exact ihn.ok cy s1 e s' hq az N rd y hy ρ1 a1 w1 ro r1 d1 hrd Q fun ρ2 a2 w2 r2 d2 x2=>hQ ρ2 a2 w2 r2 d2 (x1.trans x2)
       | exit i=>cases hq;exact hQ ρ1 a1 w1 r1 d1 x1
       | ret=>cases hq;exact hQ ρ1 a1 w1 r1 d1 x1
    . cases hcode
   case cond t x y=>
    split at hcode
    . rename_i ct cx cy ht hx hy;cases hcode;simp only[aV]at hq;split at hq
      . rename_i b hb;have e1:=(r.aa ht hb).kh;refine wpIn_cond e1 ?_;cases b with
        | true=>exact ihn.ok cx s e s' hq az N rd x hx ρ a w ro r d hrd Q hQ
        | false=>exact ihn.ok cy s e s' hq az N rd y hy ρ a w ro r d hrd Q hQ
      . cases hq
    . cases hcode
   case block id x=>
    simp only[Option.map_eq_some_iff]at hcode;obtain⟨cx,hx,rfl⟩:=hcode;simp only[aV]at hq;refine wpIn_block ?_;cases hr:aV ext (dY P) FT n cx s with
    | none=>rw[hr]at hq;cases hq
    | some p=>
     obtain⟨e1,s1⟩:=p;rw[hr]at hq;refine ihn.ok cx s e1 s1 hr az N rd x hx ρ a w ro r d hrd _ ?_;intro ρ1 a1 w1 r1 d1 x1;cases e1 with
     | normal=>cases hq;exact hQ ρ1 a1 w1 r1 d1 x1
     | exit i=>
      simp only at hq;show (if i=id then Q .normal a1 w1 else Q (.exit i) a1 w1);split at hq
      . rename_i hi;cases hq;rw[if_pos hi];exact hQ ρ1 a1 w1 r1 d1 x1
      . rename_i hi;cases hq;rw[if_neg hi];exact hQ ρ1 a1 w1 r1 d1 x1
     | ret=>cases hq;exact hQ ρ1 a1 w1 r1 d1 x1
   case loop x=>
    simp only[Option.map_eq_some_iff]at hcode;obtain⟨cx,hx,rfl⟩:=hcode;exact OS hx (fun k hk=>ih k hk) hq r d hrd hQ
   case scope x=>
    simp only[Option.map_eq_some_iff]at hcode;obtain⟨cx,hx,rfl⟩:=hcode;refine OI ?_;simp only[aV]at hq;cases hr:aV ext (dY P) FT n cx s with
    | none=>rw[hr]at hq;cases hq
    | some p=>
     obtain⟨e1,s1⟩:=p;rw[hr]at hq;refine ihn.ok cx s e1 s1 hr az N rd x hx ρ a w ro r d hrd _ ?_;intro ρ1 a1 w1 r1 d1 x1;cases e1 with
     | normal=>
      simp only at hq;cases n with
      | zero=>cases hq
      | succ n=>
       simp only[aV,Option.some.injEq,Prod.mk.injEq]at hq;obtain⟨rfl,rfl⟩:=hq;exact hQ ρ1 a1 w1 r1 d1 x1
     | exit i=>cases hq;exact hQ ρ1 a1 w1 r1 d1 x1
     | ret=>cases hq;exact hQ ρ1 a1 w1 r1 d1 x1
   case rangeFunc g ps as bd=>
    split at hcode
    . rename_i fi dps ai bi h1 h2 h3 h4;cases hcode;cases rd with
      | true=>simp[aV]at hq
      | false=>
       rw[hrd rfl];exact OV ihn hFT h1 h2 h3 h4 hq r d hQ
    . cases hcode
   all_goals
    cases hcode;simp[aV]at hq
end Go.Ab
namespace Go.Ab
variable {P:Program} {gl:Nat->Option AV} {ρ:au} {w:World} {h:ab}
def yx:AV->AV->Bool
 | .int k a,.int k' b=>decide (k=k') && a == b
 | .str a,.str b=>a == b
 | .bool a,.bool b=>a == b
 | .dE,.dE | .ae,.ae | .dL,.dL | .fa,.fa | .cZ,.cZ=>true
 | .fn (.func f) [] [],.fn (.func g) [] []=>f == g
 | _,_=>false
def tg:List AV->List AV->Bool
 | [],[]=>true
 | a::l,b::m=>yx a b && tg l m
 | _,_=>false
theorem OW {a b:AV}(h:yx a b=true):a=b:=by
 unfold yx at h;split at h <;> first|rfl|(simp at h;done)|skip
 . simp at h;rw[h.1,h.2]
 . simp at h;rw[h]
 . simp at h;rw[h]
 . simp at h;rw[h]
theorem Fc:∀{a b:List AV},tg a b=true->a=b
 | [],[],_=>rfl
 | _::_,_::_,h=>by
  simp only[tg,Bool.and_eq_true]at h;rw[OW h.1,Fc h.2]
 | [],_::_,h=>by cases h
 | _::_,[],h=>by cases h
theorem iy.mono {nx:Next}{w1:World}{R R':Value->World->Prop}(h:iy P nx w1 R)(hr:∀v w',R v w'->R' v w'):iy P nx w1 R':=by
 cases nx <;> simp only[iy]at h ⊢
 case value v=>exact hr _ _ h
 case enter f args=>
  refine CallsIn.mono h fun e w' he=>?_
  cases e with
  | returned v=>exact hr _ _ he
  | panicked _=>exact he
  | outgrown=>exact he
 case round l f tmps as bd=>
  refine RoundIn.mono h fun e w' he=>?_
  cases e with
  | returned v=>exact hr _ _ he
  | panicked _=>exact he
  | outgrown=>exact he
theorem Mem.bare (hgl:∀g v,gl g=some v->v.top=0)(m:Mem P gl ρ h w):Mem P gl (dC 0 ρ) [] w:=by
 refine⟨fun b o hb=>by simp at hb,fun b _=>rfl,?_,?_,?_,?_,fun g v hg=>?_⟩
 . intro b b' c d d' h1;simp[dC]at h1
 . intro b c d h1;simp[dC]at h1
 . rintro c (hc|⟨b,d,_,hb⟩)
   . exact m.xb c hc
   . exact m.bound b c d hb
 . intro b c d h1;simp[dC]at h1
 . exact(m.gl g v hg).fF (n:=0) (fun b hb=>by omega) (fun c hc=>hc.dC 0) (by rw[hgl g v hg];exact Nat.le_refl _)
theorem VL.bare {l:List AV}{m:List Value}(hl:aY l=0)(h:VL ρ w l m):VL (dC 0 ρ) w l m:=
 ⟨h.1,fun i x y hx hy=>(h.2 i x y hx hy).fF (n:=0) (fun b hb=>by omega) (fun c hc=>hc.dC 0) (dZ (by omega) i x hx)⟩
end Go.Ab
namespace Go.Ab
variable {P:Program} {gl:Nat->Option AV} {ρ:au} {w:World} {h:ab}
inductive XK where
 | nw|ny|index|count|same
 deriving DecidableEq
def OX:Array Value->Sem Value:=fun args=>do
 let (x, y, b) ←Extern.MathBitsCarry.three "Sub64" args
 pure (Extern.MathBitsCarry.pair ((x+Extern.MathBitsCarry.m64-y-b)%Extern.MathBitsCarry.m64) (if x<y+b then 1 else 0))
def XK.entry:XK->Array Value->Sem Value
 | .nw=>add64Entry
 | .ny=>OX
 | .index=>Extern.BytealgIndexByte.indexByte
 | .count=>Extern.BytealgCount.count
 | .same=>Extern.AbiNoEscape.same
def XK.run:XK->List AV->Option AV
 | .nw,[.int .u64 x,.int .u64 y,.int .u64 c]=>if 0<=x/\0<=y/\0<=c/\c<=1 then some (.aq [.int .u64 ((x+y+c)%18446744073709551616),.int .u64 ((x+y+c)/18446744073709551616)]) else none
 | .ny,[.int .u64 x,.int .u64 y,.int .u64 c]=>if 0<=x/\0<=y/\0<=c/\c<=1 then some (.aq [.int .u64 ((x.toNat+18446744073709551616-y.toNat-c.toNat)%18446744073709551616:Nat),.int .u64 (if x.toNat<y.toNat+c.toNat then 1 else 0:Nat)]) else none
 | .index,[.str s,.int .u8 c]=>some (.int .i64 (firstIdx ⟨s.toArray⟩ c.toNat.toUInt8))
 | .count,[.str s,.int .u8 c]=>some (.int .i64 ((ByteArray.mk s.toArray).foldl (fun n x=>if x == c.toNat.toUInt8 then n+1 else n) ((0:Nat):Int)))
 | .same,[x]=>some x
 | _,_=>none
structure pZ (P:Program)(f:Nat)(k:XK):Prop where
 fn : ∃fn, P.funcs[f]? = some fn /\ (fn.name == "runtime.NumGoroutine") = false /\ fn.body.isNone = true /\ Extern.findNext fn = none /\ Extern.find fn = some k.entry
def nz:List (Nat×XK)->FuncId->List AV->ab->Option HR
 | [],_,_,_=>none
 | (g,k)::L,f,all,h=>if Nat.beq g f then (match k.run all with|some v=>some ⟨v,h,[]⟩|none=>none) else nz L f all h
theorem OY {x y c:Int}(hc0:0<=c)(hc:c<=1)(n:String)(k:Nat×Nat×Nat->Sem Value) :
 ((Extern.MathBitsCarry.three n #[.int .u64 x,.int .u64 y,.int .u64 c]) >>= k).run P w=(k (x.toNat,y.toNat,c.toNat)).run P w:=by
 obtain⟨c',rfl⟩:=Int.eq_ofNat_of_zero_le hc0;have:c'=0\/c'=1:=by omega
 rcases this with rfl|rfl <;> rfl
theorem XK.qc (k:XK){all:List AV}{as':List Value}(hv:VL ρ w all as'){v:AV}(hq:k.run all=some v):∃v',(k.entry as'.toArray).run P w = .ok v' w/\V ρ w v v':=by
 unfold XK.run at hq;split at hq <;> try (cases hq;done)
 . rename_i x y c;split at hq <;> try (cases hq;done)
   rename_i hc;cases hq;obtain⟨a1,m1,rfl,e1,hv⟩:=hv.cons_inv;obtain⟨a2,m2,rfl,e2,hv⟩:=hv.cons_inv;obtain⟨a3,m3,rfl,e3,hv⟩:=hv.cons_inv;obtain rfl:=hv.iM;cases e1;cases e2;cases e3;exact⟨_,run_add64 x y c hc.1 hc.2.1 hc.2.2.1 hc.2.2.2 w,V.gI (.cons (.int _ _) (.cons (.int _ _) .nil))⟩
 . rename_i x y c;split at hq <;> try (cases hq;done)
   rename_i hc;cases hq;obtain⟨a1,m1,rfl,e1,hv⟩:=hv.cons_inv;obtain⟨a2,m2,rfl,e2,hv⟩:=hv.cons_inv;obtain⟨a3,m3,rfl,e3,hv⟩:=hv.cons_inv;obtain rfl:=hv.iM;cases e1;cases e2;cases e3;exact⟨_, OY hc.2.2.1 hc.2.2.2 "Sub64" _, V.gI (.cons (.int _ _) (.cons (.int _ _) .nil))⟩
 . rename_i s c;cases hq;obtain⟨a1,m1,rfl,e1,hv⟩:=hv.cons_inv;obtain⟨a2,m2,rfl,e2,hv⟩:=hv.cons_inv;obtain rfl:=hv.iM;cases e1;cases e2;exact⟨_,run_indexByte_string ⟨s.toArray⟩ c w,.int _ _⟩
 . rename_i s c;cases hq;obtain⟨a1,m1,rfl,e1,hv⟩:=hv.cons_inv;obtain⟨a2,m2,rfl,e2,hv⟩:=hv.cons_inv;obtain rfl:=hv.iM;cases e1;cases e2;exact⟨_,rfl,.int _ _⟩
 . rename_i x;cases hq;obtain⟨a1,m1,rfl,e1,hv⟩:=hv.cons_inv;obtain rfl:=hv.iM;exact⟨a1,rfl,e1⟩
theorem Fe:∀{L:List (Nat×XK)},(∀p∈L,pZ P p.1 p.2)->dg P gl (nz L)
 | [],_=>fun f all h r hq=>by cases hq
 | (g,k)::L,hL=>fun f all h r hq=>by
  simp only[nz]at hq;split at hq
  . rename_i hg;have hg':=Nat.eq_of_beq_eq_true hg;subst hg';split at hq
    . rename_i v hv;cases hq;refine⟨nk _,fun ρ w as' m hl=>?_⟩;obtain⟨fn,h1,h2,h3,h4,h5⟩:=(hL (g,k) (by simp)).fn;obtain⟨v',h6,h7⟩:=XK.qc (P:=P) k hl hv;refine⟨.value v',w,?_,gw m h7⟩;rw[run_callFunc_extern h1 h2 h3 h4 h5,h6];rfl
    . cases hq
  . exact Fe (fun p hp=>hL p (by simp[hp])) f all h r hq
end Go.Ab
namespace Go.Ab
variable {P:Program} {gl:Nat->Option AV} {ρ:au} {w:World} {h:ab}
def th:Option Nat->Option Nat->Bool
 | none,none=>true
 | some a,some b=>Nat.beq a b
 | _,_=>false
theorem Ff {a b:Option Nat}(h:th a b=true):a=b:=by
 unfold th at h;split at h
 . rfl
 . rw[Nat.eq_of_beq_eq_true h]
 . cases h
mutual
def lO:AV->AV->Bool
 | .cz,.cz=>true
 | .int k a,.int k' b=>decide (k=k') && a == b
 | .str a,.str b=>a == b
 | .bool a,.bool b=>a == b
 | .dE,.dE | .ae,.ae | .dL,.dL | .fa,.fa | .cZ,.cZ=>true
 | .ptr b o,.ptr b' o'=>Nat.beq b b' && Nat.beq o o'
 | .vp l,.vp m=>iP l m
 | .sl b o n e c,.sl b' o' n' e' c'=>Nat.beq b b' && Nat.beq o o' && Nat.beq n n' && Nat.beq e e' && th c c'
 | .vs l n c,.vs l' n' c'=>iP l l' && Nat.beq n n' && th c c'
 | .map b,.map b'=>Nat.beq b b'
 | .fn (.func f) x y,.fn (.func g) x' y'=>Nat.beq f g && iP x x' && iP y y'
 | .iface t v,.iface t' v'=>Nat.beq t t' && lO v v'
 | .agg l,.agg m=>iP l m
 | .aq l,.aq m=>iP l m
 | _,_=>false
def iP:List AV->List AV->Bool
 | [],[]=>true
 | a::l,b::m=>lO a b && iP l m
 | _,_=>false
end
mutual
theorem qe:∀(a b:AV),lO a b=true->a=b:=by
 intro a b h;unfold lO at h;split at h <;> first|rfl|(simp at h;done)|skip
 . simp at h;rw[h.1,h.2]
 . simp at h;rw[h]
 . simp at h;rw[h]
 . simp only[Bool.and_eq_true,Nat.beq_eq]at h;rw[h.1,h.2]
 . rw[jP _ _ h]
 . simp only[Bool.and_eq_true,Nat.beq_eq]at h;rw[h.1.1.1.1,h.1.1.1.2,h.1.1.2,h.1.2,Ff h.2]
 . simp only[Bool.and_eq_true,Nat.beq_eq]at h;rw[jP _ _ h.1.1,h.1.2,Ff h.2]
 . rw[Nat.eq_of_beq_eq_true h]
 . simp only[Bool.and_eq_true,Nat.beq_eq]at h;rw[h.1.1,jP _ _ h.1.2,jP _ _ h.2]
 . simp only[Bool.and_eq_true,Nat.beq_eq]at h;rw[h.1,qe _ _ h.2]
 . rw[jP _ _ h]
 . rw[jP _ _ h]
theorem jP:∀(a b:List AV),iP a b=true->a=b:=by
 intro a b h;cases a <;> cases b <;> simp only[iP,Bool.and_eq_true]at h <;> first|rfl|(simp at h;done)|skip
 rw[qe _ _ h.1,jP _ _ h.2]
end
def ti:List (AV×AV)->List (AV×AV)->Bool
 | [],[]=>true
 | (a,b)::l,(c,d)::m=>lO a c && lO b d && ti l m
 | _,_=>false
theorem Fg:∀{a b:List (AV×AV)},ti a b=true->a=b
 | [],[],_=>rfl
 | (a,b)::l,(c,d)::m,h=>by
  simp only[ti,Bool.and_eq_true]at h;rw[qe _ _ h.1.1,qe _ _ h.1.2,Fg h.2]
 | [],_::_,h=>by cases h
 | _::_,[],h=>by cases h
def tj:bc->bc->Bool
 | .cells l e,.cells m f=>Nat.beq e f && iP l m
 | .map l,.map m=>ti l m
 | .iter s p,.iter t q=>s == t && Nat.beq p q
 | .fA,.fA=>true
 | _,_=>false
theorem Fh {a b:bc}(h:tj a b=true):a=b:=by
 unfold tj at h;split at h
 . simp only[Bool.and_eq_true,Nat.beq_eq]at h;rw[h.1,jP _ _ h.2]
 . rw[Fg h]
 . simp only[Bool.and_eq_true,Nat.beq_eq,beq_iff_eq]at h;rw[h.1,h.2]
 . rfl
 . cases h
def nC:ab->ab->Bool
 | [],[]=>true
 | none::l,none::m=>nC l m
 | some a::l,some b::m=>tj a b && nC l m
 | _,_=>false
theorem yy:∀{a b:ab},nC a b=true->a=b
 | [],[],_=>rfl
 | none::l,none::m,h=>by simp only[nC]at h;rw[yy h]
 | some a::l,some b::m,h=>by
  simp only[nC,Bool.and_eq_true]at h;rw[Fh h.1,yy h.2]
 | [],_::_,h=>by cases h
 | _::_,[],h=>by rename_i o _;cases o <;> cases h
 | none::_,some _::_,h=>by cases h
 | some _::_,none::_,h=>by cases h
def ky:ab->ab->Bool
 | [],[]=>true
 | none::l,_::m=>ky l m
 | some a::l,some b::m=>tj a b && ky l m
 | _,_=>false
theorem yz:∀{a b:ab},ky a b=true->a.length=b.length/\∀(i:Nat) x,a[i]? = some (some x)->b[i]? = some (some x)
 | [],[],_=>⟨rfl,by simp⟩
 | none::l,o::m,h=>by
  simp only[ky]at h;obtain⟨h1,h2⟩:=yz h;refine⟨by simp[h1],fun i x hx=>?_⟩;cases i with
  | zero=>simp at hx
  | succ i=>exact h2 i x (by simpa using hx)
 | some a::l,some b::m,h=>by
  simp only[ky,Bool.and_eq_true]at h;obtain⟨h1,h2⟩:=yz h.2;refine⟨by simp[h1],fun i x hx=>?_⟩;cases i with
  | zero=>simp at hx ⊢;rw[←Fh h.1,hx]
  | succ i=>exact h2 i x (by simpa using hx)
 | [],_::_,h=>by cases h
 | o::_,[],h=>by cases o <;> cases h
 | some _::_,none::_,h=>by cases h
structure bH where
 f:Nat
 as:List AV
 h:ab
 r:HR
def tk (r:HR):Option HR->Bool
 | some q=>lO q.v r.v && nC q.h r.h && q.wr == r.wr
 | none=>false
theorem OZ {r:HR}{q:Option HR}(h:tk r q=true):q=some r:=by
 unfold tk at h;split at h
 . rename_i q;simp only[Bool.and_eq_true,beq_iff_eq]at h;obtain⟨v,hh,wr⟩:=q;obtain⟨v',hh',wr'⟩:=r;simp only at h;rw[qe _ _ h.1.1,yy h.1.2,h.2]
 . cases h
def lQ (f:Nat)(all:List AV)(h:ab):List bH->Option HR
 | []=>none
 | e::T=>if Nat.beq e.f f then (if iP e.as all then (if ky e.h h then some ⟨e.r.v,dv e.r.wr h e.r.h 0,e.r.wr⟩ else lQ f all h T) else lQ f all h T) else lQ f all h T
def tn (T:List bH)(ext:FuncId->List AV->ab->Option HR):FuncId->List AV->ab->Option HR:=fun f all h=>
 match lQ f all h T with
 | some r=>some r
 | none=>ext f all h
def bz (P:Program)(gl:Nat->Option AV)(e:bH):Prop:=
 eM e.h e.r/\∀ρ w (as':List Value),Mem P gl ρ e.h w->VL ρ w e.as as'->∃nx w1,(callFunc e.f as'.toArray).run P w = .ok nx w1/\iy P nx w1 fun v w'=>dP P gl ρ e.h w e.r v w'
theorem Fi {f:Nat}{all:List AV}{h:ab}:∀{T:List bH} {r:HR},lQ f all h T=some r->∃e∈T,e.f=f/\e.as=all/\ky e.h h=true/\r=⟨e.r.v,dv e.r.wr h e.r.h 0,e.r.wr⟩
 | [],r,h=>by cases h
 | e::T,r,hq=>by
  have rest:lQ f all h T=some r->∃e'∈e::T,e'.f=f/\e'.as=all/\ky e'.h h=true/\r=⟨e'.r.v,dv e'.r.wr h e'.r.h 0,e'.r.wr⟩:=fun hr=>by
   obtain⟨e',h1,h2⟩:=Fi hr;exact⟨e',List.mem_cons_of_mem _ h1,h2⟩
  simp only[lQ]at hq;split at hq
  . rename_i hf;split at hq
    . rename_i ha;split at hq
      . rename_i hs;cases hq;exact⟨e,List.mem_cons_self,Nat.eq_of_beq_eq_true hf,jP _ _ ha,hs,rfl⟩
      . exact rest hq
    . exact rest hq
  . exact rest hq
theorem Pa {h0:ab}{r:HR}(hs:h0.length=h.length/\∀(i:Nat) x,h0[i]? = some (some x)->h[i]? = some (some x))(hwr:eM h0 r)(m:Mem P gl ρ h w){v':Value}{w':World}(hd:dP P gl ρ h0 w r v' w') :
 dP P gl ρ h w ⟨r.v,dv r.wr h r.h 0,r.wr⟩ v' w':=by
 obtain⟨ρ',hv,m',x⟩:=hd;obtain⟨hl,hk⟩:=hs;have hle:h.length<=r.h.length:=by have:=hwr.1;omega
 have get:=fun b=>gZ r.wr h r.h 0 b hle
 have hml:=pU r.wr h r.h 0 hle;have h0none:∀b,b<h.length->h[b]? = some none->h0[b]? = some none:=by
  intro b hb hn;cases hz:h0[b]? with
  | none=>rw[List.getElem?_eq_none_iff]at hz;omega
  | some z=>cases z with
    | none=>rfl
    | some z=>rw[hk b z hz]at hn;cases hn
 have E:Ext h (dv r.wr h r.h 0) ρ ρ' w w':=by
  refine⟨x.os,x.tape,x.output,x.size,by rw[hml];exact hle,x.X,?_,?_,x.live,x.dead,x.nil,?_,?_,x.shape⟩
  . intro b hb;have hlt:=(List.getElem?_eq_some_iff.1 hb).1;rw[get b,if_pos hlt];split
    . exact x.cz b (h0none b hlt hb)
    . exact hb
  . intro b hb;exact x.same b (h0none b (List.getElem?_eq_some_iff.1 hb).1 hb)
  . intro c hc hu;refine x.bB c hc fun b d hb=>?_
    have:=hu b d hb;exact h0none b (List.getElem?_eq_some_iff.1 this).1 this
  . intro b c d hb hc;rcases x.back b c d hb hc with h1|⟨b0,d0,h1,h2⟩
    . exact .inl h1
    . refine .inr ⟨b0,d0,h1,fun hn=>h2 (h0none b0 (List.getElem?_eq_some_iff.1 hn).1 hn)⟩
 refine⟨ρ',hv,⟨?_,?_,m'.inj,m'.bound,m'.xb,m'.xo,m'.gl⟩,E⟩
 . intro b o hb;rw[get b]at hb;split at hb
   . rename_i hlt;split at hb
     . exact m'.cF b o hb
     . rename_i hno;simp only[Nat.add_zero,List.contains_eq_mem,decide_eq_true_eq]at hno;cases hz:h0[b]? with
       | none=>rw[List.getElem?_eq_none_iff]at hz;omega
       | some z=>
        cases z with
        | some o'=>
         have:=hk b o' hz;rw[hb]at this;cases this;exact m'.cF b o (by rw[hwr.2 b (by omega) hno,hz])
        | none=>
         refine(m.cF b o hb).mono E (x.same b hz) fun c d hl'=>?_
         refine x.bB c (m.bound b c d hl') fun b' d' hb'=>?_
         have:=m.inj _ _ _ _ _ hl' hb';subst this;exact hz
   . exact m'.cF b o hb
 . intro b hb;rw[hml]at hb;exact m'.fresh b hb
theorem Fj {T:List bH}(hT:∀e∈T,bz P gl e){ext:FuncId->List AV->ab->Option HR}(hext:dg P gl ext):dg P gl (tn T ext):=by
 intro f all h r hq;unfold tn at hq;split at hq
 . rename_i q hv;cases hq;obtain⟨e,he,rfl,rfl,hs,rfl⟩:=Fi hv;obtain⟨hwr,ba⟩:=hT e he;have hsp:=yz hs;have hle:h.length<=e.r.h.length:=by have:=hwr.1;omega
   refine⟨⟨by show _<=(dv _ _ _ _).length;rw[pU _ _ _ _ hle];exact hle,fun b hb hn=>?_⟩,fun ρ w as' m hl=>?_⟩
   . show (dv e.r.wr h e.r.h 0)[b]? = _;rw[gZ _ _ _ _ _ hle,if_pos hb];simp only at hn;simp[hn]
   . have m0:Mem P gl ρ e.h w:=⟨fun b o hb=>m.cF b o (hsp.2 b o hb),fun b hb=>m.fresh b (by omega),m.inj,m.bound,m.xb,m.xo,m.gl⟩;obtain⟨nx,w1,h1,h2⟩:=ba ρ w as' m0 hl;exact⟨nx,w1,h1,h2.mono fun v w' hd=>Pa hsp hwr m hd⟩
 . exact hext f all h r hq
theorem Pb {call:du}(hcall:kp P gl call){f:Nat}{as:List AV}{h:ab}{r:HR}(hq:tk r (call (.fn (.func f) [] []) as h)=true):bz P gl ⟨f,as,h,r⟩:=by
 have hq':=OZ hq;refine⟨hcall.wr _ _ _ _ hq',fun ρ w as' m hl=>?_⟩;obtain⟨nx,w1,h1,h2⟩:=hcall.ok _ _ _ _ hq' ρ w (.func (.func f) #[] #[]) as' m (.fn (fi':=[]) (ca':=[]) (by simp) rfl rfl (by simp) (by simp)) hl;exact Ew f _ _ ⟨nx,w1,h1,h2⟩
end Go.Ab
namespace Go.Ab
variable {ext:FuncId->List AV->ab->Option HR} {inv:fe} {FT:FuncId->Option cK}
def nD (c c':du):Prop:=∀g as h r,c g as h=some r->c' g as h=some r
def tp (r r':an->al->Option (Ex×al)):Prop:=∀c s x,r c s=some x->r' c s=some x
theorem tq {c c':du}(hc:nD c c'){s:St}{io:aS}{q:HR}(h:bw c inv s io=some q):bw c' inv s io=some q:=by
 cases io <;> first|exact h|skip
 case call f as=>
  simp only[bw]at h ⊢;split at h
  . exact hc _ _ _ _ h
  . cases h
 case invoke f name as=>
  simp only[bw]at h ⊢;split at h
  . split at h
    . exact hc _ _ _ _ h
    . cases h
  . cases h
theorem kA {c c':du}(hc:nD c c'):∀(l:List aO) (s s':al),dN c inv l s=some s'->dN c' inv l s=some s'
 | [],s,s',h=>h
 | o::l,s,s',h=>by
  simp only[dN]at h ⊢;split at h
  . split at h
    . rename_i q hq;simp only[tq hc hq];exact kA hc l _ s' h
    . cases h
  . exact kA hc l _ s' h
  . cases h
theorem jo {c c':du}(hc:nD c c'):∀(l:List (aO×List Nat)) (s s':al) (ds:List bK),dc c inv l s ds=some s'->dc c' inv l s ds=some s'
 | [],s,s',ds,h=>h
 | (o,un)::l,s,s',ds,h=>by
  simp only[dc]at h ⊢;split at h
  . split at h
    . rename_i hh;cases ht:iH s.s o.op with
      | none=>
       simp only[ht]at h ⊢;simp only[if_true]at h ⊢;split at h
       . rename_i q hq;simp only[tq hc hq];split at h
         . rename_i hk;rw[if_pos hh];simp only[hk,if_true];exact jo hc l _ s' _ h
         . cases h
       . cases h
      | some T=>
       simp only[ht]at h ⊢;split at h
       . rename_i hd;rw[if_pos hd];split at h
         . rename_i q hq;simp only[tq hc hq];split at h
           . rename_i hk;rw[if_pos hh];simp only[hk,if_true];exact jo hc l _ s' _ h
           . cases h
         . cases h
       . cases h
    . rename_i hh;rw[if_neg hh];split at h
      . exact jo hc l _ s' _ h
      . cases h
  . exact jo hc l _ s' _ h
  . cases h
theorem tr {r r':an->al->Option (Ex×al)}(hr:tp r r'){f:FuncId}{all:List AV}{h:ab}{q:HR}(hq:gN r FT f all h=some q):gN r' FT f all h=some q:=by
 unfold gN at hq ⊢;split at hq <;> try (cases hq;done)
 rename_i fi hfi;split at hq <;> try (cases hq;done)
 rename_i hn;rw[if_neg hn];split at hq <;> try (cases hq;done)
 rename_i e s hrun;rw[hr _ _ _ hrun];exact hq
theorem Fk {r r':an->al->Option (Ex×al)}(hr:tp r r'):nD (fN r ext FT) (fN r' ext FT):=by
 intro g as h q hq;cases g <;> try (cases hq;done)
 rename_i f fi ca;cases f <;> try (cases hq;done)
 . simp only[fN]at hq ⊢;split at hq
   . exact hq
   . exact tr hr hq
 . cases fi <;> cases ca <;> try (cases hq;done)
   rename_i b;change ku r b as h=some q at hq
   change ku r' b as h=some q
   unfold ku at hq ⊢;split at hq <;> try (cases hq;done)
   split at hq <;> try (cases hq;done)
   split at hq <;> try (cases hq;done)
   rename_i h3;simp only[hr _ _ _ h3];split at hq <;> try (cases hq;done)
   rename_i h4;split at hq <;> try (cases hq;done)
   rename_i h5;simp only[hr _ _ _ h5];exact hq
theorem Pc:∀n,tp (aV ext inv FT n) (aV ext inv FT (n+1)):=by
 intro n;induction n with
 | zero=>intro c s x h;cases h
 | succ n ih=>
  intro c s x h;have hc:nD (fN (aV ext inv FT n) ext FT) (fN (aV ext inv FT (n+1)) ext FT):=Fk ih;cases c <;> first|exact h|skip
  case region ops=>
   rw[aV]at h ⊢;split at h
   . rename_i s1 h1;rw[kA hc _ _ _ h1];exact h
   . cases h
  case draw ops=>
   rw[aV]at h ⊢;split at h
   . rename_i s1 h1;rw[jo hc _ _ _ _ h1];exact h
   . cases h
  case seq a b=>
   rw[aV]at h ⊢;cases hr:aV ext inv FT n a s with
   | none=>rw[hr]at h;cases h
   | some p=>
    rw[ih _ _ _ hr];rw[hr]at h;obtain⟨e,s1⟩:=p;cases e with
    | normal=>exact ih _ _ _ h
    | exit _=>exact h
    | ret=>exact h
  case cond t a b=>
   rw[aV]at h ⊢;split at h
   . exact ih _ _ _ h
   . cases h
  case block id a=>
   rw[aV]at h ⊢;cases hr:aV ext inv FT n a s with
   | none=>rw[hr]at h;cases h
   | some p=>
    rw[ih _ _ _ hr];rw[hr]at h;exact h
  case loop a=>
   rw[aV]at h ⊢;cases hr:aV ext inv FT n a s with
   | none=>rw[hr]at h;cases h
   | some p=>
    rw[ih _ _ _ hr];rw[hr]at h;obtain⟨e,s1⟩:=p;cases e with
    | normal=>exact ih _ _ _ h
    | exit _=>exact h
    | ret=>exact h
  case rangeFunc inner f ps a b=>
   rw[aV]at h ⊢;split at h
   . cases h
   . rename_i hi;rw[if_neg hi];split at h
     . rename_i g l1 l2 hg;simp only;split at h
       . rename_i q hq;simp only[tr ih hq];exact h
       . cases h
     . cases h
theorem tu {n m:Nat}(h:n<=m):tp (aV ext inv FT n) (aV ext inv FT m):=by
 induction h with
 | refl=>exact fun _ _ _ h=>h
 | step _ ih=>exact fun c s x hx=>Pc _ c s x (ih c s x hx)
end Go.Ab
namespace Go.Ab
variable {P:Program} {gl:Nat->Option AV} {w:World} {ext:FuncId->List AV->ab->Option HR} {FT:FuncId->Option cK}
def bare:au:=⟨fun _=>.fresh,fun _=>False⟩
theorem Pd (hgl:∀g v,gl g=some v->V bare w v (.pointer (some ⟨g,0,none⟩))):Mem P gl bare [] w:=
 ⟨fun b o h=>(by simp at h),fun _ _=>rfl,fun b b' c d d' h=>(by cases h),fun b c d h=>(by cases h),fun c h=>False.elim h,fun b c d h=>(by cases h),hgl⟩
theorem Pe (hmix:P.follows .mixedOrders=true)(hext:dg P gl ext)(hFT:kr P gl FT){n:Nat}{f:FuncId}{as:List AV}{q:HR}(hq:gN (aV ext (dY P) FT n) FT f as []=some q)
 (hgl:∀g v,gl g=some v->V bare w v (.pointer (some ⟨g,0,none⟩))) {as':List Value} (hv:VL bare w as as') :
 Calls P f as'.toArray w fun e w'=>∃v',e = .returned v'/\(∃ρ',V ρ' w' q.v v')/\w'.os=w.os/\w'.tape=w.tape/\w'.output=w.output/\w.heap.size<=w'.heap.size/\∀c,c<w.heap.size->w'.heap[c]? = w.heap[c]? := by
 obtain⟨_,h2⟩:=sZ (yw hmix hext hFT n) hFT hq (Pd hgl) hv;have h3:=callsIn_wide.1 h2;refine h3.mono fun e w' he=>?_
 cases e with
 | returned v=>
  obtain⟨ρ',hv',m',x⟩:=he;exact⟨v,rfl,⟨ρ',hv'⟩,x.os,x.tape,x.output,x.size,fun c hc=>x.bB c hc fun b d hb=>by cases hb⟩
 | panicked _=>exact he.elim
 | outgrown=>exact he.elim
end Go.Ab
namespace Go.Ab
open Go.ChangeShapes Go.WideShapes Go.RowKit
variable {H:Type} {enc:TypeId×Value->H} {P:Program}
theorem Pf {W W':World}(h:W'.os=W.os/\W'.tape=W.tape/\W'.output=W.output/\W.heap.size<=W'.heap.size/\∀c,c<W.heap.size->W'.heap[c]? = W.heap[c]?):Below W.heap.size W W':=
 ⟨h.1,h.2.1,h.2.2.1,h.2.2.2.1,h.2.2.2.2⟩
theorem Fl (hl:laidOutB P=true){W W':World}(hb:Below W.heap.size W W'):∀{ts:List TypeId} {vs:List Value} {ds:List (DataW H)} {ps:List MemPlace},(∀t∈ts,P.readableRec t=true/\t<P.types.size) ->
 DataW.TrodAll enc P W 0 (fun _=>true) true ts vs ds ps->(∀x∈ps,x.block<W.heap.size)->∀sp:Nat->Bool,(∀p∈ps,sp p.block=true)->DataW.TrodAll enc P W' 0 sp true ts vs ds ps
 | [],vs,ds,ps,_,h,_,sp,_=>by obtain⟨rfl,rfl,rfl⟩:=trodAll_nil h;exact trodAll_mk0
 | t::ts,vs,ds,ps,ht,h,hlt,sp,hsp=>by
  obtain⟨v,vs',d,ds',p,q,rfl,rfl,rfl,h1,h2⟩:=trodAll_cons h;obtain⟨g1,g2⟩:=ht t (by simp);refine trodAll_cons_mk (WideElems.Trod_stays hl g1 g2 h1 (fun x hx=>hb.same (hlt x (by simp[hx]))) (fun x hx=>hsp x (by simp[hx]))) ?_;exact Fl hl hb (fun t ht'=>ht t (by simp[ht'])) h2 (fun x hx=>hlt x (by simp[hx])) sp fun x hx=>hsp x (by simp[hx])
theorem Pg {f:Func}{s:ChangeSpec}{apart fresh handsOn again:Bool}{W W':World}{args:Array Value}{ds gs:List (DataW H)}{before:List MemPlace}(hW:DataW.Whole enc P f.params.toList s.vars apart W args.toList ds gs before)
 (hl:laidOutB P=true) (ht:∀t∈f.params.toList,P.readableRec t=true/\t<P.types.size) (hvars:s.vars=[]) (hb:Below W.heap.size W W')
 {bt:TypeId} (hbt:P.underlying bt=some .bool) (hrt:f.resultTypes = #[bt]) (h1:(s.fn H (ds++gs)).results=[.lit (.bool true)]) (h2:(s.fn H (ds++gs)).args=ds) (h3:(s.fn H (ds++gs)).vars=[]) :
 s.post enc P f apart fresh handsOn again W args (.bool true) W':=by
 have hlt:∀x∈before,x.block<W.heap.size:=fun x hx=>by simpa using hW.lt x hx
 have hold:∀p∈before,(fun b=>decide (b<W.heap.size)) p.block=true:=fun p hp=>by simpa using hlt p hp
 have hW':=hW;obtain⟨p,q,hA,hV,hpq,hz,hn⟩:=hW';rw[hvars]at hV;obtain⟨hgs,hq⟩:=trodVars_none hV;subst hq;rw[List.append_nil]at hpq;subst hpq;have hargs:=Fl hl hb ht hA hlt;have hargs':∀sp:Nat->Bool,(∀p∈before,sp p.block=true)->DataW.TrodAll enc P W' 0 sp true f.params.toList args.toList (s.fn H (ds++gs)).args before:=by
  rw[h2];exact hargs
 have hres:∀(b:Nat) (sp:Nat->Bool) (hd:Bool),DataW.TrodAll enc P W' b sp hd f.resultTypes.toList ((Value.bool true).resultList f.resultTypes.size) (s.fn H (ds++gs)).results []:=by
  intro b sp hd;rw[h1,hrt];exact trodAll_cons_mk (shut_bool hbt true) trodAll_mk0
 have hvar:∀sp:Nat->Bool,DataW.TrodVars enc P W' sp s.vars (s.fn H (ds++gs)).vars []:=by
  intro sp;rw[hvars,h3];rfl
 have hkept:W.keptBut W' (fun _=>False):=by
  refine⟨hb.os,hb.output,fun i hi=>?_⟩;have:=(World.keptBut_refl W (fun _=>False)).2.2 i hi;rw[hb.block i hi];exact this
 refine⟨ds,gs,before,[],before,[],hW,hres _ _ _,hargs' _ hold,hvar _,World.keptBut_mono (fun p hp=>hp.elim) hkept,fun _=>?_⟩;refine⟨ok_one hrt rfl (okWide_bool_mk hbt true),_,_,([]++before)++[],⟨[]++before,[],trodAll_append (hargs' _ (fun _ _=>rfl)) (hres _ _ _),hvar _,rfl,?_,?_⟩,?_⟩
 . intro b off hp;have hp':MemPlace.cell b off∈before:=by simpa using hp
   have hlt':=hlt _ hp';rw[DT (w:=W) (hb.block b hlt')];exact hz b off hp'
 . intro ha;simpa using hn ha
 . intro p hp _;simpa using hp
end Go.Ab
