/-
  Own work: a call of a function value, what is asked of it, and one operation of a region walked.
-/
import Derived.Test.YtmngppcmhfhgaaaGreatDoorLib0
import Derived.RangeFuncLeaves
import Derived.Laws.Externs
import Derived.WalkKit
import Derived.Carry
import Derived.OpenShut
import Derived.ChangeSame
import Derived.Laws.RangeString
import Derived.Lib.DecodeN
import Derived.Deep.Slices
import Derived.Deep.Strs
open Array renaming getD_eq_getD_getElem?→b7,getElem?_eq_some_iff→iK,replicate→jR,toArray_toList→j0,getD→k9,toList_map→m5
open Bool renaming and_eq_true→aZ,false_eq_true→bj,eq_false_iff→db,and_true→fg,true_or→mn
open Classical renaming em→l9,choose→m7
open List renaming getElem?_eq_getElem→az,getElem?_eq_some_iff→aW,mem_cons→cd,getElem?_append_left→cK,getElem?_set→cN,ext_getElem?→cV,all_eq_true→c5,length_append→c6,mem_append→c7,nil_append→dF,getElem?_map→dU,replicate→d6,getElem?_append_right→d7,length_cons→d9,length_nil→fF,take_of_length_le→f6,flatten_cons→f7,getElem?_eq_none→f8,any_eq_true→gF,cons_append→gT,isEmpty_iff→gU,getElem?_mapIdx→g9,all_nil→ip,mem_singleton→iB,drop_eq_getElem_cons→i5,flatMap_cons→i6,getElem?_cons_succ→i7,isEmpty_nil→i9,getElem?_append→j9,replicate_succ→kM,getElem?_inj→lc,lookup_cons→m6,foldl_cons→ne,length_map→nz,mapM_cons→nO,drop_drop→n3,range→n4,all_cons→n5,take_add→n6
open Nat renaming lt_or_ge→bc,le_refl→b8,beq→dh,lt_of_lt_of_le→dr,le_max_right→ff,le_max_left→fM,eq_of_beq_eq_true→gc,zero_le→ib,zero_add→ii,add_sub_cancel_left→i8,beq_eq→jj,strongRecOn→jN,add_zero→le,lt_trichotomy→li,add_mul→m9
open Option renaming map_eq_some_iff→be,some→b5,bind_some→b6,map_some→ce
open Prod renaming mk→ja
open Go.Result renaming andThen_ok→ci
open Go.Sem renaming run_bind→c8,run_pure→d8
open Go.Value renaming iface→m8
open Go.World renaming cell?→kw,cells?_some→mp
set_option maxHeartbeats 8000000
set_option maxRecDepth 20000
namespace Go.Ab
variable {P:Program} {gl:Nat->Option AV} {ρ:aM} {w:World} {h:ae} {C:Cx} {s:St} {a:Act}
def FR (ro:Option Nat):Fence:={ fn:=fun _=>True,depth:=none,alive:=false,round:=ro }
def jn (P:Program)(nx:Next)(w1:World)(R:Value->World->Prop):Prop:=
 match nx with
 | .value v=>R v w1
 | .enter f args=>CallsIn Fence.wide 0 P f args w1 fun
   | .returned v,w'=>R v w'
   | _,_=>False
 | .round l f tmps as bd=>RoundIn Fence.wide 0 P l f tmps as bd w1 fun
   | .returned v,w'=>R v w'
   | _,_=>False
 | _=>False
def mX (g':Value)(as':Array Value):Sem Next:=do
 let d ←Deferred.ofValue g' as'
 invoke d.target d.args
def fD (h:ae)(r:HR):Prop:=h.length<=r.h.length/\∀b,b<h.length->b∉r.wr->r.h[b]? = h[b]?
structure lW (P:Program)(gl:Nat->Option AV)(call:ee):Prop where
 wr:∀g as h r,call g as h=some r->fD h r
 ok:∀g as h r,call g as h=some r->∀ρ w g' (as':List Value),Mem P gl ρ h w->V ρ w g g'->VL ρ w as as' ->
  ∃nx w1,(mX g' as'.toArray).run P w = .ok nx w1/\jn P nx w1 fun v w'=>fe P gl ρ h w r v w'
theorem Gm {ro:Option Nat}{o:Oper}{a:Act}{next:Act->World->Prop}{Q:Exit->Act->World->Prop}{nx:Next}{w1:World}{R:Value->World->Prop}
 (h:jn P nx w1 R) (hn:∀v w',R v w'->next (a.put o.dst v) w'):o.uponIn (FR ro) 0 P a next Q (.ok nx w1):=by
 cases nx <;> simp only[jn]at h
 case value v=>exact hn _ _ h
 case enter f args=>
  refine⟨fun hd=>(by cases hd),CallsIn.mono (F:=Fence.wide) (n:=0) h ?_⟩<;>grind
 case round l f tmps as bd=>
  refine⟨fun hd=>(by cases hd),RoundIn.mono (F:=Fence.wide) (n:=0) h ?_⟩<;>grind
theorem Pz {t:TypeId}{name:String}{f:FuncId}(h:fl P t name=some f)(n:Nat)(v:Value):(method (n+1) t v name).run P w = .ok (f,v) w:=by
 unfold fl at h;split at h
 . rename_i i u hi hu;split at h
   . rename_i m hm;rw[Array.find?_toList]at hm;split at h
     . rename_i f' ptr hf hp;have hp':m.path.isEmpty=true:=by
        cases hq:m.path with|mk l=>grind
       unfold method;simp only[c8,tK hi,ci,hm,hp,follow,d8,hf];split at h
       . rename_i e;cases h;simp[receiverAt,bV hu,Place.get]
       . cases h
       . rename_i hne;cases h;unfold receiverAt;cases u <;> first|(exact absurd rfl (hne _))|simp[bV hu,Place.get]
       . cases h
     . cases h
   . cases h
 . cases h
theorem PA (n:Nat):∃k,n+Made.depth=k+1:=by
 have:0<Made.depth:=by decide
 exact⟨n+Made.depth-1,ac⟩
theorem Gn (f:FuncId)(args:Array Value)(R:Value->World->Prop):(∃nx w1,(mX (.func (.func f) #[] #[]) args).run P w = .ok nx w1/\jn P nx w1 R)->∃nx w1,(callFunc f args).run P w = .ok nx w1/\jn P nx w1 R:=by
 rintro⟨nx,w1,h1,h2⟩;refine⟨nx,w1,?_,h2⟩;simpa[mX,Deferred.ofValue,invoke] using h1
theorem Gp {call:ee}(hcall:lW C.P C.gl call)(r:Rel C ρ s a w){o:Oper}{io:bm}(hc:iW C o=some io){q:HR}(hq:bX call (fl C.P) s io=some q){ro:Option Nat}
 {next:Act->World->Prop} {Q:Exit->Act->World->Prop} (hn:∀v' w',fe C.P C.gl ρ s.hp w q v' w'->next (a.put o.dst v') w'):o.wpIn (FR ro) 0 C.P a w next Q:=by
 refine⟨fun _ _=>trivial,?_⟩;have hnd:∀c,o.op≠.defer c:=by
  intro c hd;unfold iW at hc;rw[hd]at hc;cases hc
 rw[Oper.semAt_eq _ _ _ hnd];by_cases hcl:(∃f args,io = .call f args)\/∃x name args,io = .invoke x name args
 . obtain⟨dst,op,ty,pos,af,gd⟩:=o;cases op
   case call c=>
    obtain⟨callee,args,ats⟩:=c;cases callee with
    | value f=>
     simp only[iW]at hc;split at hc
     . rename_i f' as' h1 h2;cases hc;simp only[bX]at hq;split at hq
       . rename_i g as h3 h4;obtain⟨nx,w1,h5,h6⟩:=hcall.ok _ _ _ _ hq ρ w _ _ r.mem (r.ah h1 h3) (r.cS h2 h4);have he:(execOp a.eval ⟨dst,.call ⟨.value f,args,ats⟩,ty,pos,af,gd⟩).run C.P w = .ok nx w1:=by
          have e2:args.map a.eval=(args.toList.map a.eval).toArray:=by rw[←m5,j0]
          simp only[execOp,resolve,e2];exact h5
         grind[Gm]
       grind
     grind
    | invoke x name=>
     simp only[iW]at hc;split at hc
     . rename_i x' as' h1 h2;cases hc;simp only[bX]at hq;split at hq
       . rename_i t v as h3 h4;split at hq
         . rename_i f hf;have e1:=r.ah h1 h3;generalize hxv:a.eval x=xv at e1;cases e1 with
           | @iface _ _ v' hv=>
            have e2:args.map a.eval=(args.toList.map a.eval).toArray:=by rw[←m5,j0]
            obtain⟨nx,w1,h5,h6⟩:=hcall.ok _ _ _ _ hq ρ w (.func (.func f) #[] #[]) (v'::args.toList.map a.eval) r.mem (.fn (fi':=[]) (ca':=[]) aq rfl rfl aq aq) (.cons hv (r.cS h2 h4));obtain⟨nx',w1',h7,h8⟩:=Gn f _ _ ⟨nx,w1,h5,h6⟩;have he:(execOp a.eval ⟨dst,.call ⟨.invoke x name,args,ats⟩,ty,pos,af,gd⟩).run C.P w = .ok nx' w1':=by
             obtain⟨k,hk⟩:=PA C.P.types.size;have hm:=Pz (P:=C.P) (w:=w) hf k v';rw[←hk]at hm;have e3:(#[v']++(args.toList.map a.eval).toArray:Array Value)=(v'::args.toList.map a.eval).toArray:=by simp
             have e4:((#[m8 t v']++(args.toList.map a.eval).toArray:Array Value)).extract 1 (#[m8 t v']++(args.toList.map a.eval).toArray).size=(args.toList.map a.eval).toArray:=by
              simp;exact f6 aq
             have e5:(#[m8 t v']++(args.toList.map a.eval).toArray:Array Value)[0]? = some (.iface t v'):=by simp
             simp only[execOp,resolve,e2,hxv,c8,d8,ci,invoke];rw[e4,e5];simp only[callMethod,c8,run_program,ci,hm,e3];exact h7
            grind[Gm]
         grind
       grind
     grind
    | builtin b=>
     exfalso;simp only[iW]at hc<;>grind
   case makeMap t res=>
    exfalso;cases res with
    | some _=>cases hc
    | none=>cases hc;grind
   case next x st=>
    exfalso;cases st with
    | false=>cases hc
    | true=>
     simp only[iW,be]at hc<;>grind
   all_goals
    exfalso;simp only[iW]at hc;repeat' (first|(cases hc;done)|split at hc)
    all_goals first
     | (cases hc;rcases hcl with ⟨_,_,h⟩|⟨_,_,_,h⟩ <;> cases h;done)
     | (simp only[be]at hc;obtain⟨_,_,rfl⟩:=hc;rcases hcl with ⟨_,_,h⟩|⟨_,_,_,h⟩ <;> cases h)
 . have hq':(if io.bM then bU s io s.hp else (bk s io).map fun v=>⟨v,s.hp,[]⟩)=some q:=by
    cases io <;> first|exact hq|(exfalso;exact hcl (.inl ⟨_,_,rfl⟩))|grind
   split at hq'
   . rename_i hh;obtain⟨v',w',h1,h2⟩:=Py r hc hh hq';rcases h1 with h1|⟨h1,rfl⟩
     . rw[h1];exact hn _ _ h2
     . rw[h1];exact hn _ _ h2
   . rename_i hh;simp only[be]at hq';obtain⟨v,h1,rfl⟩:=hq';obtain⟨v',h2,h3⟩:=OH r hc aw h1;rw[h2];exact hn _ _ (iy r.mem h3)
theorem mY {x:Array Value}{t u:Nat}{v d:Value}:(x.setIfInBounds t v).getD u d=if u=t/\t<x.size then v else x.getD u d:=by
 simp only[b7,Array.getElem?_setIfInBounds]<;>grind
theorem zH {er:ER C ρ w s.pe s.lo a.tmps}{dst:Option Tmp}{d:fj}(hd:kd C dst=some d){x:AV}{v:Value}(hv:V ρ w x v)(h:ae) :
 ER C ρ w ({ s.put d x with hp:=h }:St).pe ({ s.put d x with hp:=h }:St).lo (a.put dst v).tmps:=by
 cases dst with
 | none=>cases hd;exact er
 | some t=>
  simp only[kd]at hd;split at hd
  . rename_i hlt;split at hd
    . rename_i i hi;cases hd;have hti:=tI hi;refine⟨by simp[Act.put,er.size],er.nodup,er.lt,by simpa[St.put] using er.ke,fun j y u h1 h2=>?_,fun u y h1=>?_⟩
      . simp only[St.put,cN]at h1;simp only[Act.put,mY];by_cases hij:i=j
        . subst hij;rw[if_pos rfl]at h1;rw[hti]at h2;cases h2;split at h1
          . cases h1;rw[if_pos ⟨rfl,by rw[er.size];exact hlt⟩];exact hv
          grind
        . rw[if_neg hij]at h1;have:u≠t:=fun e=>by
           subst e;exact hij ((lc (aW.1 hti).1 er.nodup).1 aw)
          rw[if_neg ac];exact er.pe j y u h1 h2
      . simp only[St.put]at h1;obtain⟨g1,g2,g3⟩:=er.lo u y h1;refine⟨g1,g2,?_⟩;simp only[Act.put,mY]<;>grind
    . rename_i hi;cases hd;have hnt:=tJ hi;refine⟨by simp[Act.put,er.size],er.nodup,er.lt,by simpa[St.put] using er.ke,fun j y u h1 h2=>?_,fun u y h1=>?_⟩
      . simp only[St.put]at h1;simp only[Act.put,mY];have:u≠t:=aw;rw[if_neg ac];exact er.pe j y u h1 h2
      . simp only[St.put,m6]at h1;simp only[Act.put,mY];split at h1
        . rename_i e;simp only[beq_iff_eq]at e;subst e;cases h1;exact⟨hlt,hnt,by rw[if_pos ⟨rfl,by rw[er.size];exact hlt⟩];exact hv⟩
        . rename_i e;simp only[beq_eq_false_iff_ne]at e;obtain⟨g1,g2,g3⟩:=er.lo u y h1<;>grind
  grind
theorem zI (r:Rel C ρ s a w){ops:Array Oper}{o:Oper}{g:Option (aO×Bool)}(hg:tE C ops.toList o.guard=some g){b:Bool}(hb:eZ s g=some b):Region.wanted o (yielded ops a.tmps)=b:=by
 unfold Region.wanted;cases ho:o.guard with
 | none=>rw[ho]at hg;cases hg;cases hb;rfl
 | some jw=>
  obtain⟨j,want⟩:=jw;rw[ho]at hg;simp only[tE]at hg;split at hg
  . rename_i oj hj;split at hg
    . rename_i t ht;simp only[be]at hg;obtain⟨y,hy,rfl⟩:=hg;simp only[eZ]at hb;have hj':ops[j]? = some oj:=by simpa using hj
      have key:∀v,s.ah y=some v->V ρ w v (a.tmps.getD t undef):=fun v hv=>r.ah hy hv
      simp only[yielded,hj',b6,ht];split at hb
      . rename_i c hc;have:=key _ hc;cases hb;have e:=this.lJ;rw[b7]at e;cases hq:a.tmps[t]? with
        | none=>rw[hq]at e;simp[undef]at e
        | some z=>grind
      . rename_i l hl;have:=key _ hl;cases hb;obtain⟨m,e,_⟩:=this.FJ;rw[b7]at e;grind
      grind
    grind
  grind
end Go.Ab
namespace Go.Ab
variable {s:St}
variable {h:ae}
theorem pk (v:AV):fD h ⟨v,h,[]⟩:=⟨b8 _,fun _ _ _=>rfl⟩
theorem zJ (v:AV)(l:ae)(wr:List Nat):fD h ⟨v,h++l,wr⟩:=⟨aq,fun b hb _=>cK hb⟩
theorem Gq (v:AV)(b:Nat)(o:Option bR):fD h ⟨v,h.put b o,[b]⟩:=by
 refine⟨by simp[ae.put],fun b' _ hn=>?_⟩;simp only[iB]at hn;exact lI hn
theorem Gr (v:AV)(b:Nat)(o:Option bR)(l:ae):fD h ⟨v,h.put b o++l,[b]⟩:=by
 refine⟨by simp[ae.put],fun b' hb hn=>?_⟩;simp only[iB]at hn;rw[cK (by simpa[ae.put] using hb)];exact lI hn
theorem PB {elem:TypeId}{esz bytes:Nat}{x y:AV}{q:HR}(hq:kC elem esz bytes h x y=some q):fD h q:=by
 unfold kC at hq;repeat' (first|(cases hq;done)|split at hq)
 all_goals (cases hq;first|exact pk _|exact zJ _ _ _|exact Gq _ _ _|grind[Gr])
theorem PC {io:bm}{q:HR}(hq:bU s io h=some q):fD h q:=by
 cases io <;> simp only[bU]at hq;all_goals first|(cases hq;done)|skip
 all_goals repeat' (first|(cases hq;done)|exact PB hq|split at hq)
 all_goals (cases hq;first|exact pk _|exact zJ _ _ _|exact Gq _ _ _|exact Gr _ _ _ _)
theorem zK {call:ee}{inv:eW}(hcall:∀g as h r,call g as h=some r->fD h r){s:St}{io:bm}{q:HR}(hq:bX call inv s io=some q):fD s.hp q:=by
 unfold bX at hq;grind[PC,be,pk]
theorem tT {s s':St}:∀{ps:List (Nat×Nat×aO)},(∀x∈tB ps,s.ah x=s'.ah x)->s.parts ps=s'.parts ps
 | [],_=>rfl
 | (o,n,x)::r,h=>by
  simp only[tB,cd,forall_eq_or_imp]at h;simp only[St.parts,h.1,tT h.2]
theorem mZ {s s':St}:∀{xs:List aO},(∀x∈xs,s.ah x=s'.ah x)->s.cS xs=s'.cS xs
 | [],_=>rfl
 | x::r,h=>by
  simp only[cd,forall_eq_or_imp]at h;simp only[St.cS,h.1,mZ h.2]
theorem ri {s':St}{x:Option aO}(h:∀y∈x.toList,s.ah y=s'.ah y):s.dY x=s'.dY x:=by
 cases x with
 | none=>rfl
 | some y=>simp only[St.dY,h y aq]
theorem Gs {call:ee}{inv:eW}{s':St}{io:bm}(hh:s.hp=s'.hp)(h:∀x∈io.gO,s.ah x=s'.ah x):bX call inv s io=bX call inv s' io:=by
 cases io
 case slice k esz x lo hi mx=>
  simp only[bm.gO,cd,c7,forall_eq_or_imp]at h;have h1:=h.1;have h2:s.dY lo=s'.dY lo:=ri aw;have h3:s.dY hi=s'.dY hi:=ri aw;have h4:s.dY mx=s'.dY mx:=ri aw;simp only[bX,bm.bM,bk,bj,if_false,hh,h1,h2,h3,h4]
 case oJ n esz x lo hi=>
  simp only[bm.gO,cd,c7,forall_eq_or_imp]at h;have h1:=h.1;have h2:s.dY lo=s'.dY lo:=ri aw;have h3:s.dY hi=s'.dY hi:=ri aw;simp only[bX,bm.bM,bU,if_true,hh,h1,h2,h3]
 case tw f fi ca=>
  simp only[bm.gO,c7]at h;have h1:s.cS fi=s'.cS fi:=mZ aw;have h2:s.cS ca=s'.cS ca:=mZ aw;simp only[bX,bm.bM,bk,bj,if_false,hh,h1,h2]
 case build zero ps=>
  have h1:s.parts ps=s'.parts ps:=tT h;simp only[bX,bm.bM,bk,bj,if_false,hh,h1]
 case dX elem len esz zero ps=>
  have h1:s.parts ps=s'.parts ps:=tT h;simp only[bX,bm.bM,bU,if_true,hh,h1]
 case mm mx xs=>
  have h1:s.cS xs=s'.cS xs:=mZ h;simp only[bX,bm.bM,bk,bj,if_false,hh,h1]
 case call f as=>
  simp only[bm.gO,cd,forall_eq_or_imp]at h;have h1:=h.1;have h2:s.cS as=s'.cS as:=mZ h.2;simp only[bX,hh,h1,h2]
 case invoke f name as=>
  simp only[bm.gO,cd,forall_eq_or_imp]at h;have h1:=h.1;have h2:s.cS as=s'.cS as:=mZ h.2;simp only[bX,hh,h1,h2]
 all_goals
  simp only[bm.gO,cd,List.not_mem_nil,or_false,forall_eq_or_imp,forall_eq]at h;simp only[bX,bm.bM,bU,bk,bj,if_false,if_true,hh,h]
theorem jH (wr:List Nat):∀(h h':ae) (i b:Nat),h.length<=h'.length ->
 (fA wr h h' i)[b]? = if b<h.length then (if wr.contains (b+i) then h'[b]? else h[b]?) else h'[b]?
 | [],h',i,b,_=>by rfl
 | o::h,[],i,b,hl=>by simp at hl
 | o::h,n::h',i,b,hl=>by
  cases b with
  | zero=>simp[fA];grind
  | succ b=>
   simp only[fA,i7,d9];rw[jH wr h h' (i+1) b aw];grind
theorem rj (wr:List Nat):∀(h h':ae) (i:Nat),h.length<=h'.length->(fA wr h h' i).length=h'.length
 | [],h',i,_=>by rfl
 | o::h,[],i,hl=>by simp at hl
 | o::h,n::h',i,hl=>by simp[fA,rj wr h h' (i+1) (by simpa using hl)]
end Go.Ab
namespace Go.Ab
variable {P:Program} {gl:Nat->Option AV} {ρ:aM} {w:World} {h:ae} {C:Cx} {s:St} {a:Act}
theorem Gt {L:List Oper}{o:Oper}{io:aY}(h:tF C L o=some io):kd C o.dst=some io.dst/\iW C o=some io.op/\tE C L o.guard=some io.guard:=by
 unfold tF at h;grind
theorem rk {L:List Oper}:∀{l:List Oper} {il:List aY},jE C L l=some il->il.length=l.length/\∀(i:Nat) (o:Oper),l[i]? = some o->∃io,il[i]? = some io/\tF C L o=some io
 | [],il,h=>by simp only[jE,b5.injEq]at h;grind
 | o::r,il,h=>by
  simp only[jE]at h;split at h
  . rename_i io l h1 h2;cases h;obtain⟨g1,g2⟩:=rk h2<;>grind
  . cases h
theorem PD {call:ee}(hcall:lW C.P C.gl call){ro:Option Nat}{ops:Array Oper}{il:List aY}(hil:jE C ops.toList ops.toList=some il){Q:Exit->Act->World->Prop} :
 ∀(m k:Nat) (s s':au) (ρ:aM) (a:Act) (w:World),k+m=ops.size->Rel C ρ s.s a w->fk call (fl C.P) (il.drop k) s=some s' ->
  (∀ρ' a' w',Rel C ρ' s'.s a' w'->Ext s.s.hp s'.s.hp ρ ρ' w w'->a'.defers=a.defers->Q .normal a' w')->wpOpsIn (FR ro) 0 C.P ops Q (List.range' k m) a w:=by
 obtain⟨hlen,hget⟩:=rk hil;intro m;induction m with
 | zero=>
  intro k s s' ρ a w hk r hq hQ;have:il.drop k=[]:=by
   rw[List.drop_eq_nil_iff];simp at hlen;omega
  rw[this]at hq;cases hq;simp only[List.range'_zero,wpOpsIn];exact hQ ρ a w r (Ext.refl _ _ _) rfl
 | succ m ih=>
  intro k s s' ρ a w hk r hq hQ;have hklt:k<ops.size:=by omega
  obtain⟨io,h1,h2⟩:=hget k ops[k] aq;obtain⟨hd,hop,hg⟩:=Gt h2;have hdrop:il.drop k=io::il.drop (k+1):=by
   have hk':k<il.length:=(aW.1 h1).1;rw[i5 hk'];congr 1;exact(aW.1 h1).2
  rw[hdrop]at hq;simp only[fk]at hq;simp only[List.range'_succ,wpOpsIn];have ho:ops[k]? = some ops[k]:=by simp[hklt]
  rw[ho];simp only;split at hq
  . rename_i hw;rw[if_pos (zI r hg hw)];split at hq
    . rename_i q hq1;refine Gp hcall r hop hq1 ?_;rintro v' w' ⟨ρ',hv,m',x⟩;refine ih (k+1) _ s' ρ' _ w' ac ⟨zH (er:=r.er.mono x) hd hv _,m'⟩ hq ?_;intro ρ2 a2 w2 r2 x2 hd2;refine hQ ρ2 a2 w2 r2 (x.trans x2) (hd2.trans ?_);unfold Act.put;grind
    grind
  . rename_i hw;rw[if_neg (by grind[zI])];refine⟨fun _ _=>trivial,ih (k+1) _ s' ρ _ w ac ⟨?_,?_⟩ hq ?_⟩
    . exact zH (er:=r.er) hd V.undef s.s.hp
    . have:(s.s.put io.dst cG).hp=s.s.hp:=by cases io.dst <;> rfl
      rw[this];exact r.mem
    . intro ρ2 a2 w2 r2 x2 hd2;have:(s.s.put io.dst cG).hp=s.s.hp:=by cases io.dst <;> rfl
      simp only[this]at x2;refine hQ ρ2 a2 w2 r2 x2 (hd2.trans ?_);unfold Act.put;grind
  grind
theorem Rel.PE (r:Rel C ρ s a w):Rel C ρ { s with lo:=[] } a w:=
 ⟨⟨r.er.size,r.er.nodup,r.er.lt,r.er.ke,r.er.pe,aq⟩,r.mem⟩
theorem PF {call:ee}(hcall:lW C.P C.gl call){ro:Option Nat}{id:Nat}{ops:Array Oper}{il:List aY}(hil:jE C ops.toList ops.toList=some il){Q:Exit->Act->World->Prop}
 {s s':au} (r:Rel C ρ s.s a w) (hq:fk call (fl C.P) il ⟨{ s.s with lo:=[] },s.wr⟩=some s')
 (hQ:∀ρ' a' w',Rel C ρ' s'.s a' w'->Ext s.s.hp s'.s.hp ρ ρ' w w'->a'.defers=a.defers->Q .normal a' w'):(Code.region id ops false).wpIn (FR ro) 0 C.P Q a w:=by
 refine wpIn_region ?_;rw[List.range_eq_range'];exact PD hcall hil ops.size 0 _ s' ρ a w ac r.PE hq hQ
end Go.Ab
namespace Go.Ab
structure tW (call:ee)(inv:eW)(st:Nat->au)(h0:Nat->ae)(r:Nat->HR)(k:Nat)(o:aY)(un:List Nat):Prop where
 wanted:∃b,eZ (st k).s o.guard=some b/\(b=true->bX call inv { (st k).s with hp:=h0 k } o.op=some (r k))/\(b=false->r k=⟨cG,h0 k,[]⟩)
 len:(h0 k).length=(st k).s.hp.length
 known:∀(b:Nat) x,(h0 k)[b]? = some (some x)->(st k).s.hp[b]? = some (some x)
 off:∀(b:Nat) x,(h0 k)[b]? = some (some x)->∀j∈un,j<k->b∉(r j).wr/\¬((st j).s.hp.length<=b/\b<(r j).h.length)
 rl:∀b∈(r k).wr,∃x,(h0 k)[b]? = some (some x)
 PG:∀j∈un,j<k->∀b∈(r k).wr,∀x,(h0 j)[b]? ≠ some (some x)
 next:st (k+1)=⟨{ (st k).s.put o.dst (r k).v with hp:=fA (r k).wr (st k).s.hp (r k).h 0 },(r k).wr++(st k).wr⟩
theorem nc (T:List Nat):∀(h:ae) (i b:Nat),(eu T h i)[b]? = (h[b]?).map fun o=>if T.contains (b+i) then o else none
 | [],i,b=>by rfl
 | o::h,i,b=>by
  cases b with
  | zero=>simp[eu]
  | succ b=>simp only[eu,i7];rw[nc T h (i+1) b,show b+(i+1)=b+1+i from by omega]
theorem gh (T:List Nat):∀(h:ae) (i:Nat),(eu T h i).length=h.length
 | [],i=>rfl
 | o::h,i=>by simp[eu,gh T h (i+1)]
theorem zM:∀(U:List Nat) (h:ae) (b:Nat),(mask h U)[b]? = if b∈U then (h[b]?).map fun _=>none else h[b]?
 | [],h,b=>by rfl
 | u::U,h,b=>by
  have:=zM U (h.set u none) b;unfold mask at this ⊢;rw[ne,this];simp only[cN,cd];by_cases hu:u=b
  . subst hu;by_cases hl:u<h.length
    . simp[hl]
    . simp[hl]
  . rw[if_neg hu];have:(b=u)↔False:=⟨fun e=>hu e.symm,False.elim⟩;simp[this]
theorem Gu:∀(U:List Nat) (h:ae),(mask h U).length=h.length
 | [],h=>rfl
 | u::U,h=>by
  have:=Gu U (h.set u none);unfold mask at this ⊢;rw[ne,this];simp
theorem PH {d:ck}{b:Nat}:b∈d.own↔b∈d.wr\/(d.lo<=b/\b<d.hi):=by
 unfold ck.own;grind
def Gv (st:Nat->au)(h0:Nat->ae)(r:Nat->HR)(ds:List ck):Prop:=
 ∀j d,ds[j]? = some d->d.wr=(r j).wr/\d.lo=(st j).s.hp.length/\d.hi=(r j).h.length/\∀T,d.jZ=some T->∀(b:Nat) x,(h0 j)[b]? = some (some x)->b∈T
theorem Gw {a b:List Nat}(h:iP a b=true):∀x∈a,x∉b:=by
 intro x hx hb;have:=c5.1 h x hx<;>grind
theorem trace {call:ee}{inv:eW}:∀(l:List (aY×List Nat)) (s:au) (ds:List ck) (s':au) (st0:Nat->au) (h00:Nat->ae) (r00:Nat->HR),Gv st0 h00 r00 ds->dS call inv l s ds=some s' ->
 ∃st h0 r,(∀j,j<ds.length->st j=st0 j/\h0 j=h00 j/\r j=r00 j)/\st ds.length=s/\st (ds.length+l.length)=s' /\
  ∀k o un,l[k]? = some (o,un)->tW call inv st h0 r (ds.length+k) o un
 | [],s,ds,s',st0,h00,r00,hds,hq=>by
  simp only[dS,b5.injEq]at hq;subst hq;refine⟨fun j=>if j=ds.length then s else st0 j,h00,r00,fun j hj=>⟨aw,rfl,rfl⟩,aq,aq,aq⟩
 | (o,un)::rest,s,ds,s',st0,h00,r00,hds,hq=>by
  have fin:∀(g0:ae) (q:HR) (t:Option (List Nat)) (b:Bool),eZ s.s o.guard=some b->(b=true->bX call inv { s.s with hp:=g0 } o.op=some q)->(b=false->q=⟨cG,g0,[]⟩) ->
   g0.length=s.s.hp.length->(∀(b:Nat) x,g0[b]? = some (some x)->s.s.hp[b]? = some (some x)) ->
   (∀(b:Nat) x,g0[b]? = some (some x)->∀j∈un,∀d,ds[j]? = some d->b∉d.own)->(∀b∈q.wr,∃x,g0[b]? = some (some x)) ->
   (∀j∈un,∀d,ds[j]? = some d->∀b∈q.wr,∃T,d.jZ=some T/\b∉T)->(∀T,t=some T->∀(b:Nat) x,g0[b]? = some (some x)->b∈T) ->
   dS call inv rest ⟨{ s.s.put o.dst q.v with hp:=fA q.wr s.s.hp q.h 0 },q.wr++s.wr⟩ (ds++[⟨t,q.wr,s.s.hp.length,q.h.length⟩])=some s' ->
   ∃st h0 r,(∀j,j<ds.length->st j=st0 j/\h0 j=h00 j/\r j=r00 j)/\st ds.length=s/\st (ds.length+((o,un)::rest).length)=s' /\
    ∀k o' un',((o,un)::rest)[k]? = some (o',un')->tW call inv st h0 r (ds.length+k) o' un':=by
   intro g0 q t b hw h1 h2 h3 h4 h5 h6 h7 h8 hrec;have hds':Gv (fun j=>if j=ds.length then s else st0 j) (fun j=>if j=ds.length then g0 else h00 j) (fun j=>if j=ds.length then q else r00 j) (ds++[⟨t,q.wr,s.s.hp.length,q.h.length⟩]):=by
    intro j d hj;rw[j9]at hj;split at hj
    . rename_i hlt;have:j≠ds.length:=by omega
      simp only[this,if_false];exact hds j d hj
    . grind
   obtain⟨st,h0,r,e1,e2,e3,e4⟩:=trace rest _ _ s' _ _ _ hds' hrec;simp only[c6,d9,fF,ii]at e1 e2 e3 e4;have eN:=e1 ds.length ac;simp only[if_true]at eN;have elt:∀j,j<ds.length->st j=st0 j/\h0 j=h00 j/\r j=r00 j:=by
    intro j hj;have:=e1 j ac;rw[if_neg ac,if_neg ac,if_neg ac]at this;exact this
   refine⟨st,h0,r,elt,eN.1,aw,?_⟩;intro k o' un' hk;cases k with
   | zero=>
    simp at hk;obtain⟨rfl,rfl⟩:=hk;rw[le];have hown:∀j,j<ds.length->∃d,ds[j]? = some d/\(∀b,b∈d.own↔b∈(r j).wr\/((st j).s.hp.length<=b/\b<(r j).h.length))/\∀T,d.jZ=some T->∀(b:Nat) x,(h0 j)[b]? = some (some x)->b∈T:=by
     intro j hj;obtain⟨f1,f2,f3⟩:=elt j hj;obtain⟨g1,g2,g3,g4⟩:=hds j ds[j] (by simp[hj]);refine⟨ds[j],by simp[hj],fun b=>?_,fun T hT b x hb=>aw⟩;rw[PH,g1,g2,g3,f1,f3]
    refine⟨?_,?_,?_,?_,?_,?_,?_⟩<;>grind
   | succ k=>
    grind
  have keep0:∀(b:Nat) x,(eu [] s.s.hp 0)[b]? ≠ some (some x):=by
   intro b x;rw[nc];cases s.s.hp[b]? <;> simp
  have merge0:fA [] s.s.hp (eu [] s.s.hp 0) 0=s.s.hp:=by
   apply cV;intro b;rw[jH _ _ _ _ _ (by rw[gh];simp)];split
   . simp
   . grind[f8,gh]
  have go:∀(t:Option (List Nat)) (g0:ae),eZ s.s o.guard=some true->(match t with|some T=>iP T (un.flatMap fun j=>(ds[j]?).elim [] ck.own)|none=>true)=true ->
   g0=(match t with|some T=>eu T s.s.hp 0|none=>mask s.s.hp (un.flatMap fun j=>(ds[j]?).elim [] ck.own)) ->
   (match bX call inv { s.s with hp:=g0 } o.op with
     | some r=>
      if ((r.wr.all fun b=>(g0.at b).isSome) && (r.wr.isEmpty || un.all (fun j=>match ds[j]? with|some d=>(match d.jZ with|some T=>iP r.wr T|none=>false)|none=>false)))=true then
       dS call inv rest ⟨{ s.s.put o.dst r.v with hp:=fA r.wr s.s.hp r.h 0 },r.wr++s.wr⟩ (ds++[⟨t,r.wr,s.s.hp.length,r.h.length⟩])
      else none
     | none=>none)=some s' ->
   ∃st h0 r,(∀j,j<ds.length->st j=st0 j/\h0 j=h00 j/\r j=r00 j)/\st ds.length=s/\st (ds.length+((o,un)::rest).length)=s' /\
    ∀k o' un',((o,un)::rest)[k]? = some (o',un')->tW call inv st h0 r (ds.length+k) o' un':=by
   intro t g0 hw hdis hg0 hq;split at hq
   . rename_i q hq1;split at hq
     . rename_i hchk;rw[aZ]at hchk;obtain⟨hc1,hc2⟩:=hchk;refine fin g0 q t true hw (fun _=>hq1) aq ?_ ?_ ?_ ?_ ?_ ?_ hq
       . grind[Gu,gh]
       . grind[zM,nc,b5.injEq]
       . intro b x hb j hj d hd hbo;have hU:b∈un.flatMap fun j=>(ds[j]?).elim [] ck.own:=by
          rw[List.mem_flatMap];exact⟨j,hj,aw⟩
         subst hg0;cases t
         . simp only at hb;rw[zM,if_pos hU]at hb;grind
         grind[nc,b5.injEq,Gw]
       . intro b hb;have:=c5.1 hc1 b hb;unfold ae.at at this;cases hz:g0[b]? with
         | none=>grind
         | some z=>cases z<;>grind
       . intro j hj d hd b hb;rw[Bool.or_eq_true]at hc2;grind[Gw]
       grind[nc,b5.injEq]
     grind
   . cases hq
  simp only[dS]at hq;split at hq
  . rename_i hw;split at hq
    . cases ht:lE s.s o.op with
      | none=>
       simp only[ht]at hq;exact go none _ hw rfl rfl hq
      | some T=>
       simp only[ht]at hq;split at hq
       . rename_i hdis;exact go (some T) _ hw hdis rfl hq
       grind
    . rename_i hh;split at hq
      . rename_i v hv;have hhf:o.op.bM=false:=by simpa using hh
        refine fin (eu [] s.s.hp 0) ⟨v,eu [] s.s.hp 0,[]⟩ (some []) true hw (fun _=>?_) aq (gh _ _ _) aw aw aq aq aw ?_
        . have:bX call inv { s.s with hp:=eu [] s.s.hp 0 } o.op=(bk { s.s with hp:=eu [] s.s.hp 0 } o.op).map fun v=>⟨v,eu [] s.s.hp 0,[]⟩:=by
           cases ho:o.op <;> rw[ho]at hhf <;> first|(simp[bm.bM]at hhf;done)|rfl
          rw[this];have hv':bk { s.s with hp:=eu [] s.s.hp 0 } o.op=some v:=by
           rw[←hv];have hc:=fun s' h'=>Gs (call:=call) (inv:=inv) (s:=s') (s':=s') (io:=o.op) rfl h'
           have e:∀(h:ae),bk { s.s with hp:=h } o.op=bk s.s o.op:=by
            intro h;have e1:∀x,({ s.s with hp:=h }:St).ah x=s.s.ah x:=by intro x;cases x <;> rfl
            have e2:∀xs,({ s.s with hp:=h }:St).cS xs=s.s.cS xs:=(by grind[mZ]);have e3:∀xs,({ s.s with hp:=h }:St).dY xs=s.s.dY xs:=fun xs=>(by rfl)
            have e4:∀xs,({ s.s with hp:=h }:St).parts xs=s.s.parts xs:=(by grind[tT]);cases o.op <;> simp only[bk,e1,e2,e3,e4]
           exact e _
          grind
        . have e:({ s.s.put o.dst v with hp:=s.s.hp }:St)=s.s.put o.dst v:=by cases o.dst <;> rfl
          grind[gh]
      grind
  . rename_i hw;refine fin (eu [] s.s.hp 0) ⟨cG,eu [] s.s.hp 0,[]⟩ (some []) false hw aq (fun _=>rfl) (gh _ _ _) aw aw aq aq aw ?_;have e:({ s.s.put o.dst cG with hp:=s.s.hp }:St)=s.s.put o.dst cG:=by cases o.dst <;> rfl
    grind[gh]
  grind
end Go.Ab
namespace Go.Ab
variable {dst:Option Tmp} {d:fj} {y:aO}
variable {P:Program} {gl:Nat->Option AV} {ρ:aM} {w:World} {h:ae} {C:Cx} {s:St} {a:Act}
def ew (lo:Nat)(ρ:aM):aM:=⟨fun b=>if b<lo then ρ b else .fresh,fun c=>ρ.X c\/∃b d,lo<=b/\ρ b = .live c d⟩
theorem da.ew {c:Nat}(lo:Nat)(h:da ρ c):da (ew lo ρ) c:=by
 refine⟨fun b d hb=>?_,?_⟩
 . simp only[Ab.ew]at hb;split at hb
   . exact h.1 b d hb
   grind
 . rintro(hx|⟨b,d,_,hb⟩)
   . exact h.2 hx
   . exact h.1 b d hb
theorem BR.gC {ρ ρ':aM}{n:Nat}(hρ:∀b,b<n->ρ' b=ρ b)(hF:∀c,da ρ c->da ρ' c){b:Nat}(hb:b<n){o:bR}(h:BR P gl ρ w b o)(ht:o.top<=n):BR P gl ρ' w b o:=by
 cases o with
 | cells l e=>
  rcases h with ⟨c,d,cs,fr,h1,h2,h3,h4,h5⟩|⟨h1,h2⟩
  . exact .inl ⟨c,d,cs,fr,(hρ b hb).trans h1,h2,h3,h4,fun i x y hx hy=>(h5 i x y hx hy).gC hρ hF (fx ht i x hx)⟩
  . exact .inr ⟨(hρ b hb).trans h1,h2⟩
 | map es=>
  obtain⟨c,ms,clk,h1,h2,h3,h4⟩:=h;have key:∀(es:List (AV×AV)),bR.top.mR es<=n->∀(i:Nat) kx vx,es[i]? = some (kx,vx)->kx.top<=n/\vx.top<=n:=by
   intro es;induction es with
   | nil=>simp
   | cons p r ih=>
    intro ht i kx vx hx;obtain⟨k,v⟩:=p;simp only[bR.top.mR]at ht<;>grind
  exact⟨c,ms,clk,(hρ b hb).trans h1,h2,h3,fun i kx vx m hx hm=>by
   obtain⟨g1,g2⟩:=h4 i kx vx m hx hm;obtain⟨t1,t2⟩:=key es ht i kx vx hx;exact⟨g1.gC hρ hF t1,g2.gC hρ hF t2⟩⟩
 | iter s pos=>obtain⟨c,h1,h2⟩:=h;exact⟨c,(hρ b hb).trans h1,h2⟩
 | gA=>obtain⟨c,h1,h2⟩:=h;exact⟨c,(hρ b hb).trans h1,h2⟩
 | hole=>exact(hρ b hb).trans h
 | loop st pend pe ps a bd=>
  obtain⟨c,r,aP,N,h1,h2,h3,h4,h5,h6⟩:=h;exact⟨c,r,aP,N,(hρ b hb).trans h1,h2,h3,h4,⟨h5.size,h5.nodup,h5.lt,h5.ke,fun i v t hv ht'=>(h5.pe i v t hv ht').gC hρ hF (fx ht i v hv),aq⟩,h6⟩
theorem BR.top {n:Nat}(hn:∀b,n<=b->ρ b = .fresh){b:Nat}{o:bR}(h:BR P gl ρ w b o):o.top<=n:=by
 cases o with
 | cells l e=>
  rcases h with ⟨c,d,cs,fr,h1,h2,h3,h4,h5⟩|⟨h1,h2⟩
  . refine lH fun i x hx=>?_
    have hi:=(aW.1 hx).1;have hlt:i+d<cs.size:=by have:=h3.1;omega
    exact(h5 i x cs[i+d] hx aq).top hn
  . subst h2;simp[bR.top,bz]
 | map es=>
  obtain⟨c,ms,clk,h1,h2,h3,h4⟩:=h;have key:∀(es:List (AV×AV)),(∀(i:Nat) kx vx,es[i]? = some (kx,vx)->kx.top<=n/\vx.top<=n)->bR.top.mR es<=n:=by
   intro es;induction es with
   | nil=>intro _;simp[bR.top.mR]
   | cons p r ih=>
    intro hx;obtain⟨k,v⟩:=p;simp only[bR.top.mR];have:=hx 0 k v rfl;have:=ih fun i kx vx h=>hx (i+1) kx vx aw
    omega
  refine key es fun i kx vx hx=>?_
  have hi:=(aW.1 hx).1;obtain⟨g1,g2⟩:=h4 i kx vx ms[i] hx aq;exact⟨g1.top hn,g2.top hn⟩
 | iter s pos=>simp[bR.top]
 | gA=>simp[bR.top]
 | hole=>simp[bR.top]
 | loop st pend pe ps a bd=>
  obtain⟨c,r,aP,N,h1,h2,h3,h4,h5,h6⟩:=h;refine lH fun i x hx=>?_
  have hi:=(aW.1 hx).1;have hp:=h5.ke;exact(h5.pe i x aP[i] hx aq).top hn
def VS (C:Cx)(ρ:aM)(w:World)(tmps:Array Value)(y:aO)(v:AV):Prop:=
 match y with
 | .p i=>∀t,C.aP[i]? = some t->V ρ w v (tmps.getD t undef)
 | .l t=>t<C.N/\t∉C.aP/\V ρ w v (tmps.getD t undef)
 | .c _=>True
theorem VS.mono {h h':ae}{ρ ρ':aM}{w w':World}(x:Ext h h' ρ ρ' w w'){tmps:Array Value}{y:aO}{v:AV}(hv:VS C ρ w tmps y v):VS C ρ' w' tmps y v:=by
 cases y with
 | p i=>exact fun t ht=>(hv t ht).mono x
 | l t=>exact⟨hv.1,hv.2.1,hv.2.2.mono x⟩
 | c _=>trivial
theorem tX {v:Value}:(a.put dst v).tmps=match dst with|some t=>a.tmps.setIfInBounds t v|none=>a.tmps:=by
 cases dst <;> rfl
theorem VS.PI (hd:kd C dst=some d)(hsz:a.tmps.size=C.N){y:aO}(hy:dZ d y=true){x:AV}{v:Value}(hv:V ρ w x v):VS C ρ w (a.put dst v).tmps y x:=by
 cases dst with
 | none=>cases hd;cases y <;> simp[dZ]at hy
 | some t=>
  simp only[kd]at hd;split at hd
  . rename_i hlt;split at hd
    . rename_i i hi;cases hd;have hti:=tI hi;cases y <;> simp[dZ]at hy;subst hy;intro u hu;rw[hti]at hu;cases hu;rw[tX];simp_all
    . rename_i hi;cases hd;have hnt:=tJ hi;cases y <;> simp[dZ]at hy;subst hy;refine⟨hlt,hnt,?_⟩;rw[tX];simp_all
  grind
theorem VS.PJ (hd:kd C dst=some d)(hnd:C.aP.Nodup){y:aO}(hy:dZ d y=false){x:AV}{v:Value}(hv:VS C ρ w a.tmps y x):VS C ρ w (a.put dst v).tmps y x:=by
 cases dst with
 | none=>exact hv
 | some t=>
  rw[tX];simp only[kd]at hd;split at hd
  . rename_i hlt;split at hd
    . rename_i i hi;cases hd;have hti:=tI hi;cases y with
      | p j=>
       simp[dZ]at hy;intro u hu;have hne:u≠t:=fun e=>by
        grind[lc]
       simp only[mY];rw[if_neg ac];exact hv u hu
      | l u=>
       obtain⟨g1,g2,g3⟩:=hv;have hne:u≠t:=aw;refine⟨g1,g2,?_⟩;simp only[mY]<;>grind
      | c _=>trivial
    . rename_i hi;cases hd;have hnt:=tJ hi;cases y with
      | p j=>
       intro u hu;have hne:u≠t:=aw;simp only[mY];rw[if_neg ac];exact hv u hu
      | l u=>
       simp[dZ]at hy;obtain⟨g1,g2,g3⟩:=hv;refine⟨g1,g2,?_⟩<;>simp_all
      | c _=>trivial
  grind
theorem PK (hy:dZ d y=true){x v:AV}(h:(s.put d x).ah y=some v):v=x:=by
 cases d <;> cases y <;> simp[dZ]at hy
 . subst hy;simp only[St.put,St.ah,cN]at h<;>grind
 . subst hy;simp only[St.put,St.ah,List.lookup_cons_self]at h<;>grind
theorem PL (hy:dZ d y=false){x:AV}:(s.put d x).ah y=s.ah y:=by
 cases d <;> cases y <;> first|rfl|skip
 . rename_i i j;simp[dZ]at hy;simp only[St.put,St.ah,cN]<;>grind
 . rename_i t u;simp[dZ]at hy;simp only[St.put,St.ah,m6]<;>grind
def restrict (us:List aO)(s:St)(h:ae):St:=
 { s with pe:=s.pe.mapIdx (fun i v=>if us.any (dZ (.p i)) then v else .dj),lo:=s.lo.filter (fun e=>us.any (dZ (.l e.1))),hp:=h }
theorem zN {p:Nat->Bool}{t:Nat}:∀(l:List (Nat×AV)),(l.filter (fun e=>p e.1)).lookup t=if p t then l.lookup t else none
 | []=>by simp
 | (u,v)::r=>by
  have ih:=zN (p:=p) (t:=t) r<;>grind
theorem Gx {us:List aO}(hy:y∈us)(h:ae):(restrict us s h).ah y=s.ah y:=by
 cases y with
 | p i=>
  have:us.any (dZ (.p i))=true:=gF.2 ⟨_,hy,by simp[dZ]⟩;simp only[restrict,St.ah,g9,this,if_true]<;>grind
 | l t=>
  have:us.any (dZ (.l t))=true:=gF.2 ⟨_,hy,by simp[dZ]⟩;simp only[restrict,St.ah];rw[zN (p:=fun t=>us.any (dZ (.l t))),if_pos this]
 | c v=>rfl
theorem PM {us:List aO}{tmps:Array Value}(hsz:tmps.size=C.N)(hnd:C.aP.Nodup)(hlt:∀t∈C.aP,t<C.N)(hpl:s.pe.length=C.aP.length)
 (hv:∀y∈us,∀v,s.ah y=some v->VS C ρ w tmps y v) (h:ae):ER C ρ w (restrict us s h).pe (restrict us s h).lo tmps:=by
 refine⟨hsz,hnd,hlt,by simp[restrict,hpl],?_,?_⟩
 . intro i v t h1 h2;simp only[restrict,g9,be]at h1;obtain⟨u,h3,h4⟩:=h1;split at h4
   . rename_i hu;subst h4;obtain⟨y,hy,hs⟩:=gF.1 hu;cases y <;> simp[dZ]at hs;subst hs;exact hv _ hy u h3 t h2
   . subst h4;exact .dj _
 . intro t v h1;simp only[restrict]at h1;rw[zN (p:=fun t=>us.any (dZ (.l t)))]at h1;split at h1
   . rename_i hu;obtain⟨y,hy,hs⟩:=gF.1 hu;cases y <;> simp[dZ]at hs;subst hs;exact hv _ hy v h1
   grind
end Go.Ab
namespace Go.Ab
variable {k:Nat}
structure nd (call:ee)(inv:eW)(il:List aY)(un:Nat->List Nat)(st:Nat->au)(h0:Nat->ae)(r:Nat->HR):Prop where
 step:∀k o,il[k]? = some o->tW call inv st h0 r k o (un k)
 wr:∀g as h r,call g as h=some r->fD h r
def own (st:Nat->au)(r:Nat->HR)(k b:Nat):Prop:=b∈(r k).wr\/((st k).s.hp.length<=b/\b<(r k).h.length)
variable {call:ee} {inv:eW} {il:List aY} {un:Nat->List Nat} {st:Nat->au} {h0:Nat->ae} {r:Nat->HR}
namespace nd
variable (T:nd call inv il un st h0 r)
include T
theorem Gy (hk:k<il.length):fD (h0 k) (r k):=by
 have sk:=T.step k il[k] (by simp[hk]);obtain⟨b,_,h1,h2⟩:=sk.wanted;cases b with
 | true=>exact zK T.wr (h1 rfl)
 | false=>rw[h2 rfl];exact pk _
theorem tY (hk:k<il.length):(st k).s.hp.length<=(r k).h.length:=by
 have:=(T.Gy hk).1;rw[(T.step k il[k] (by simp[hk])).len]at this;exact this
theorem tZ (hk:k<il.length):(st (k+1)).s.hp.length=(r k).h.length:=by
 rw[(T.step k il[k] (by simp[hk])).next];exact rj _ _ _ _ (T.tY hk)
theorem iH {i:Nat}:∀{j:Nat},i<=j->j<=il.length->(st i).s.hp.length<=(st j).s.hp.length
 | 0,h,_=>by grind
 | j+1,h,hj=>by
  by_cases e:i=j+1
  . grind
  . have h1:(st i).s.hp.length<=(st j).s.hp.length:=iH ac ac;have h2:=T.tY (k:=j) ac;have h3:=T.tZ (k:=j) ac;omega
theorem zO (hk:k<il.length)(b:Nat):(st (k+1)).s.hp[b]? = if b<(st k).s.hp.length then (if (r k).wr.contains b then (r k).h[b]? else (st k).s.hp[b]?) else (r k).h[b]? := by
 rw[(T.step k il[k] (by simp[hk])).next];have:=jH (r k).wr (st k).s.hp (r k).h 0 b (T.tY hk)<;>grind
theorem PN (hk:k<il.length){b:Nat}(ho:own st r k b):(st (k+1)).s.hp[b]? = (r k).h[b]? := by
 rw[T.zO hk];split
 . rename_i hlt;rcases ho with ho|ho<;>grind
 . rfl
theorem PO (hk:k<il.length){b:Nat}(ho:¬own st r k b):(st (k+1)).s.hp[b]? = (st k).s.hp[b]? := by
 rw[T.zO hk];have h1:b∉(r k).wr:=fun h=>ho (.inl h)
 split
 . simp[h1]
 . rename_i hge;have h2:(r k).h.length<=b:=by
    rcases bc b (r k).h.length with h|h
    . exact absurd (.inr ⟨ac,h⟩) ho
    . exact h
   grind
theorem stays {i b:Nat}:∀{m:Nat},i<=m->m<=il.length->(∀j,i<=j->j<m->¬own st r j b)->(st m).s.hp[b]? = (st i).s.hp[b]?
 | 0,h,_,_=>by grind
 | m+1,h,hm,ho=>by
  by_cases e:i=m+1
  . grind
  . rw[T.PO ac (ho m ac ac)];exact stays ac ac fun j h1 h2=>ho j h1 ac
theorem Gz (hk:k<il.length)(y:aO):(st (k+1)).s.ah y=((st k).s.put il[k].dst (r k).v).ah y:=by
 rw[(T.step k il[k] (by simp[hk])).next];rfl
theorem zQ {i:Nat}{y:aO}:∀{m:Nat},i<=m->m<=il.length->(∀(j:Nat) (o:aY),i<=j->j<m->il[j]? = some o->dZ o.dst y=false)->(st m).s.ah y=(st i).s.ah y
 | 0,h,_,_=>by grind
 | m+1,h,hm,ho=>by
  by_cases e:i=m+1
  . grind
  . rw[T.Gz ac,PL (ho m _ ac ac aq)];exact zQ ac ac fun j o h1 h2 h3=>ho j o h1 ac h3
theorem dj {b:Nat}(h:(st 0).s.hp[b]? = some none):∀{k:Nat},k<=il.length->(st k).s.hp[b]? = some none
 | 0,_=>h
 | k+1,hk=>by
  have ih:=dj h (k:=k) ac;have hlt:=(aW.1 ih).1;rw[T.zO ac,if_pos hlt];have:b∉(r k).wr:=by
   intro hb;have sk:=T.step k il[k] aq;obtain⟨x,hx⟩:=sk.rl b hb;rw[sk.known b x hx]at ih;cases ih
  grind
theorem GA (hk:k<=il.length):(st k).s.pe.length=(st 0).s.pe.length:=by
 induction k with
 | zero=>rfl
 | succ k ih=>
  rw[←ih ac,(T.step k il[k] aq).next];cases il[k].dst <;> simp[St.put]
theorem cg (hk:k<=il.length):(st k).s.cg=(st 0).s.cg:=by
 induction k with
 | zero=>rfl
 | succ k ih=>
  rw[←ih ac,(T.step k il[k] aq).next];cases il[k].dst <;> simp[St.put]
end nd
end Go.Ab
namespace Go.Ab
variable {call:ee} {inv:eW} {il:List aY} {un:Nat->List Nat} {st:Nat->au} {h0:Nat->ae} {r:Nat->HR} {C:Cx} {bits:List Nat} {ρ0:aM} {w0:World} {df:List Deferred}
structure Inv (C:Cx)(il:List aY)(st:Nat->au)(r:Nat->HR)(bits:List Nat)(ρ0:aM)(w0:World)(df:List Deferred)(S:Nat->Prop)(ρ:aM)(H:ae)(a:Act)(w:World):Prop where
 hlen:H.length=(st il.length).s.hp.length
 mem:Mem C.P C.gl ρ H w
 ext:Ext (st 0).s.hp H ρ0 ρ w0 w
 ua:∀k,k<il.length->¬S k->∀b,(st k).s.hp.length<=b->b<(r k).h.length->H[b]? = some (some .hole)
 heap:∀b k,k<=il.length->(∀i,i<k->own st r i b->S i)->(∀j,k<=j->j<il.length->S j->¬own st r j b)->∀o,(st k).s.hp[b]? = some (some o)->H[b]? = some (some o)/\o.top<=(st k).s.hp.length
 slot:∀y k,k<=il.length->(∀(i:Nat) o,i<k->il[i]? = some o->dZ o.dst y=true->S i)->(∀(j:Nat) o,k<=j->il[j]? = some o->S j->dZ o.dst y=false) ->
  ∀v,(st k).s.ah y=some v->VS C ρ w a.tmps y v/\((∃c,y = .c c)\/v.top<=(st k).s.hp.length)
 size:a.tmps.size=C.N
 gA:a.defers=df
 zU:∀i,S i->i<il.length->∀j,j<i->(bits.getD i 0).testBit j=true->S j
theorem Inv.after (T:nd call inv il un st h0 r){S:Nat->Prop}{ρ:aM}{H:ae}{a:Act}{w:World}(I:Inv C il st r bits ρ0 w0 df S ρ H a w)(hnd:C.aP.Nodup){k:Nat}{io:aY}(hio:il[k]? = some io)(hS:¬S k)
 (hap:∀(i:Nat) oi,il[i]? = some oi->∀j∈un i,∃oj,il[j]? = some oj/\oO oj oi=true)
 (hb1:∀j,j<k->¬S j->j∈un k) (hb2:∀j,k<j->j<il.length->S j->k∈un j) (hb3:∀j,j<k->(bits.getD k 0).testBit j=true->S j)
 (hkey:∀(b:Nat) x,(h0 k)[b]? = some (some x)->H[b]? = some (some x)) {dst:Option Tmp} (hd:kd C dst=some io.dst) {v':Value} {w':World} {ρ':aM}
 (hv:V ρ' w' (r k).v v') (m':Mem C.P C.gl ρ' (r k).h w') (x:Ext (h0 k) (r k).h (ew (st k).s.hp.length ρ) ρ' w w') :
 ∃ρn H',Inv C il st r bits ρ0 w0 df (fun i=>S i\/i=k) ρn H' (a.put dst v') w':=by
 have hk:k<il.length:=(aW.1 hio).1;have hioe:il[k]=io:=(aW.1 hio).2;have sk:=T.step k io hio;have hlo:(h0 k).length=(st k).s.hp.length:=sk.len;have hle:=T.tY hk;have hnx:=T.tZ hk;have hwr:=T.Gy hk;have hmn:=T.iH (i:=k+1) (j:=il.length) ac (b8 _);generalize hloe:(st k).s.hp.length=lo at *
 generalize hhie:(r k).h.length=hi at *
 let ownb:Nat->Bool:=fun b=>(r k).wr.contains b || (decide (lo<=b) && decide (b<hi))
 have ownb_iff:∀b,ownb b=true↔own st r k b:=by
  intro b;simp only[ownb,own,hloe,hhie];simp
 let ρn:aM:=⟨fun b=>if b<hi then ρ' b else ρ b,ρ.X⟩
 let H':ae:=H.mapIdx fun b o=>if ownb b then ((r k).h[b]?).join else o
 have hH':∀b,H'[b]? = (H[b]?).map fun o=>if ownb b then ((r k).h[b]?).join else o:=by
  intro b;simp only[H',g9]
 have hH'len:H'.length=H.length:=by simp[H']
 have cut_eq:∀b,b<lo->(ew lo ρ) b=ρ b:=fun b hb=>by simp only[ew];grind
 have cut_ge:∀b,lo<=b->(ew lo ρ) b = .fresh:=fun b hb=>by simp only[ew];grind
 have fresh_new:∀b,lo<=b->b<hi->ρ b = .fresh:=fun b h1 h2=>I.mem.dm b .hole (I.ua k hk hS b ac ac)
 have h0none:∀b,b<lo->H[b]? = some none->(h0 k)[b]? = some none:=by
  intro b hb hn;cases hz:(h0 k)[b]? with
  | none=>grind
  | some z=>cases z with
    | none=>rfl
    | some z=>grind
 have ρn_lt:∀b,b<hi->ρn b=ρ' b:=aw;have ρn_ge:∀b,hi<=b->ρn b=ρ b:=aw;have E:Ext H H' ρ ρn w w':=by
  refine⟨x.os,x.tape,x.output,x.size,ac,rfl,?_,?_,?_,?_,?_,?_,?_,x.shape⟩
  . intro b hb;have:ownb b=false:=by
     rw[db];intro ho;rcases (ownb_iff b).1 ho with h|⟨h1,h2⟩
     . obtain⟨z,hz⟩:=sk.rl b h;grind
     . rw[I.ua k hk hS b h1 h2]at hb;cases hb
    rw[hH' b,hb];simp[this]
  . intro b hb;rcases bc b hi with h|h
    . rw[ρn_lt b h];have hblo:b<lo:=by
       rcases bc b lo with h'|h'
       . exact h'
       . rw[I.ua k hk hS b ac ac]at hb;cases hb
      rw[x.same b aw,cut_eq b hblo]
    grind
  . intro b c d hb;rcases bc b hi with h|h
    . rw[ρn_lt b h];rcases bc b lo with h'|h'
      . exact x.live b c d aw
      grind
    grind
  . intro b hb;rcases bc b hi with h|h
    . rw[ρn_lt b h];rcases bc b lo with h'|h'
      . exact x.dead b aw
      grind
    grind
  . intro b hb;rcases bc b hi with h|h
    . rw[ρn_lt b h];rcases bc b lo with h'|h'
      . exact x.nil b aw
      grind
    grind
  . intro c hc hu;refine x.cT c hc fun b d hb=>?_
    grind
  . intro b c d hb hc;rcases bc b hi with h|h
    . rw[ρn_lt b h]at hb;rcases x.back b c d hb hc with h1|⟨b0,d0,h1,h2⟩
      . grind
      grind
    grind
 have hFree:∀c,da ρ' c->da ρn c:=by
  intro c hc;have hX:ρ'.X=(ew lo ρ).X:=x.X;have h2:=hc.2;rw[hX]at h2;refine⟨fun b d hb=>?_,fun hx=>h2 (.inl hx)⟩;rcases bc b hi with h|h
  . rw[ρn_lt b h]at hb;exact hc.1 b d hb
  . rw[ρn_ge b h]at hb;exact h2 (.inr ⟨b,d,ac,hb⟩)
 have top':∀{y:AV} {u:Value},V ρ' w' y u->y.top<=hi:=fun hy=>hy.top fun b hb=>m'.fresh b ac
 have hM:Mem C.P C.gl ρn H' w':=by
  refine⟨?_,?_,?_,?_,?_,?_,fun g v hg=>(I.mem.gl g v hg).mono E⟩
  . intro b o hb;rw[hH' b]at hb;cases hz:H[b]? with
    | none=>grind
    | some z=>
     rw[hz]at hb;simp only[ce,b5.injEq]at hb;have useR:(r k).h[b]? = some (some o)->BR C.P C.gl ρn w' b o:=by
      intro hr;have hb':b<hi:=by have:=(aW.1 hr).1;omega
      have hbr:=m'.dm b o hr;exact hbr.gC (n:=hi) ac hFree hb' (hbr.top fun b hb=>m'.fresh b ac)
     split at hb
     . grind
     . rename_i hno;subst hb;have hno':¬own st r k b:=aw;have hbr:=I.mem.dm b o hz;rcases bc b lo with h'|h'
       . cases hz0:(h0 k)[b]? with
         | none=>grind
         | some z0=>
          cases z0 with
          | some o'=>
           have:=hkey b o' hz0;rw[hz]at this;cases this;refine useR ?_;rw[hwr.2 b ac aw,hz0]
          | none=>
           refine hbr.mono E ?_ ?_
           . rw[ρn_lt b ac,x.same b hz0,cut_eq b h']
           . intro c d hl;refine x.cT c (I.mem.bound b c d hl) fun b' d' hb'=>?_
             rcases bc b' lo with h''|h''
             . rw[cut_eq b' h'']at hb';have:=I.mem.inj _ _ _ _ _ hl hb';grind
             grind
       . have hge:hi<=b:=by
          rcases bc b hi with h|h
          . grind
          . exact h
         refine hbr.mono E (ρn_ge b hge) ?_;intro c d hl;refine x.cT c (I.mem.bound b c d hl) fun b' d' hb'=>?_
         rcases bc b' lo with h''|h''
         . rw[cut_eq b' h'']at hb';have:=I.mem.inj _ _ _ _ _ hl hb';omega
         grind
  . intro b hb;rw[hH'len,I.hlen]at hb;rw[ρn_ge b ac];exact I.mem.fresh b (by rw[I.hlen];exact hb)
  . have key:∀b b' c d d',b<hi->hi<=b'->ρ' b = .live c d->ρ b' = .live c d'->False:=by
     intro b b' c d d' h1 h2 h3 h4;have:=m'.xo b c d h3;rw[x.X]at this;exact this (.inr ⟨b',d',ac,h4⟩)
    intro b b' c d d' h1 h2;rcases bc b hi with h|h <;> rcases bc b' hi with h'|h'
    . rw[ρn_lt b h]at h1;rw[ρn_lt b' h']at h2;exact m'.inj _ _ _ _ _ h1 h2
    . grind
    . grind
    . rw[ρn_ge b h]at h1;rw[ρn_ge b' h']at h2;exact I.mem.inj _ _ _ _ _ h1 h2
  . intro b c d hb;rcases bc b hi with h|h
    . rw[ρn_lt b h]at hb;exact m'.bound _ _ _ hb
    . rw[ρn_ge b h]at hb;exact dr (I.mem.bound _ _ _ hb) x.size
  . intro c hc;exact dr (I.mem.xb c hc) x.size
  . intro b c d hb hX;rcases bc b hi with h|h
    . rw[ρn_lt b h]at hb;have:=m'.xo b c d hb;rw[x.X]at this;exact this (.inl hX)
    . rw[ρn_ge b h]at hb;exact I.mem.xo _ _ _ hb hX
 have hvn:V ρn w' (r k).v v':=hv.gC (n:=hi) ac hFree (top' hv);refine⟨ρn,H',⟨by rw[hH'len];exact I.hlen,hM,I.ext.trans E,?_,?_,?_,?_,?_,?_⟩⟩
 . -- holes
   intro k' hk' hS' b h1 h2;have hne:k'≠k:=ac;have hh:=I.ua k' hk' aw b h1 h2;have:ownb b=false:=by
    rw[db];intro ho;rcases (ownb_iff b).1 ho with h|⟨h3,h4⟩
    . obtain⟨z,hz⟩:=sk.rl b h;rw[hkey b z hz]at hh;cases hh;have hst:=sk.known b _ hz;rcases li k' k with hlt|heq|hgt
      . -- made by k' in the text's order, so k' has been carried out
        have hun:k'∈un k:=aw;exact(sk.off b _ hz k' hun hlt).2 ⟨h1,h2⟩
      . omega
      . have hlen':=(aW.1 hz).1;have:=T.iH (i:=k) (j:=k') ac ac;omega
    . rcases li k' k with hlt|heq|hgt
      . have h5:=T.tZ hk';have h6:=T.iH (i:=k'+1) (j:=k) ac ac;omega
      . omega
      . have h6:=T.iH (i:=k+1) (j:=k') ac ac;omega
   rw[hH' b,hh];simp[this]
 . -- heap
   intro b m hm h1 h2 o ho;by_cases bT:own st r k b
   . have hkm:k<m:=by
      rcases bc k m with h|h
      . exact h
      . grind
     have hst:=T.stays (i:=k+1) (b:=b) (m:=m) ac hm (fun j hj1 hj2 hoj=>by
      have hSj:S j:=aw;have hun:=hb2 j ac ac hSj;have sj:=T.step j il[j] aq;rcases hoj with hoj|hoj
      . obtain⟨z,hz⟩:=sj.rl b hoj;have:=sj.off b z hz k hun ac;grind
      . have hlj:=T.iH (i:=k+1) (j:=j) ac ac;rcases bT with bT|bT
        . obtain⟨z,hz⟩:=sk.rl b bT;grind
        . omega)
     rw[hst,T.PN hk bT]at ho;have hbl:b<H.length:=by
      have:=(aW.1 ho).1;have:=I.hlen;omega
     refine⟨?_,?_⟩
     . grind
     . have:=(m'.dm b o ho).top (n:=hi) (fun b hb=>m'.fresh b ac);have:=T.iH (i:=k+1) (j:=m) ac hm;omega
   . have hno:ownb b=false:=by rw[db];exact aw
     obtain⟨g1,g2⟩:=I.heap b m hm aw aw o ho;grind
 . -- slots
   intro y m hm h1 h2 v hv0;by_cases hy:dZ io.dst y=true
   . have hkm:k<m:=by
      rcases bc k m with h|h
      . exact h
      . grind
     have hst:=T.zQ (i:=k+1) (y:=y) (m:=m) ac hm (fun j oj hj1 hj2 hoj=>by
      rw[db];intro hyj;have hSj:S j:=aw;have hun:=hb2 j ac ac hSj;obtain⟨ok,bT,hapt⟩:=hap j oj hoj k hun;rw[hio]at bT;cases bT;simp only[oO,aZ,Bool.not_eq_true']at hapt;have:=hapt.2;cases hd1:io.dst <;> cases hd2:oj.dst <;> cases y <;> simp[hd1,hd2,dZ,FF]at hy hyj this
      . omega
      omega)
     rw[hst,T.Gz hk,hioe]at hv0;have:=PK hy hv0;subst this;refine⟨VS.PI hd I.size hy hvn,.inr ?_⟩;have:=T.iH (i:=k+1) (j:=m) ac hm;grind
   . have hy':dZ io.dst y=false:=by simpa using hy
     obtain⟨g1,g2⟩:=I.slot y m hm aw aw v hv0;exact⟨(g1.mono E).PJ hd hnd hy',g2⟩
 . rw[tX];cases dst <;> simp[I.size]
 . rw[←I.gA];unfold Act.put;grind
 . intro i hSi hi' j hj hbit;rcases hSi with hSi|rfl
   . exact .inl (I.zU i hSi hi' j hj hbit)
   grind
end Go.Ab
namespace Go.Ab
variable {call:ee} {il:List aY} {st:Nat->au} {h0:Nat->ae} {r:Nat->HR} {C:Cx} {bits:List Nat} {ρ0:aM} {w0:World} {df:List Deferred} {ops:Array Oper}
theorem PQ {α:Type}{l:List α}{i:Nat}{x:α}(h:l[i]? = some x):(x,i)∈l.zipIdx:=by
 grind
theorem GB (h:pa ops.toList bits=true){i:Nat}{o:Oper}(ho:ops[i]? = some o) :
 (∀e∈o.after,Region.binds .any e=true->e.on<i)/\∀j,j<i->(bits.getD i 0).testBit j=true->∃e∈o.after,Region.binds .any e=true/\(e.on=j\/(j<e.on/\(bits.getD e.on 0).testBit j=true)):=by
 have:=c5.1 h (o,i) aw;grind
theorem GC {b i j:Nat}:j∈jm b i↔j<i/\b.testBit j=false:=by
 simp[jm]
theorem PR (h:pb il bits=true)(i:Nat)(oi:aY)(ho:il[i]? = some oi):∀j∈jm (bits.getD i 0) i,∃oj,il[j]? = some oj/\oO oj oi=true:=by
 intro j hj;have:=c5.1 h (oi,i) (PQ ho)<;>grind
theorem Inv.step (hcall:lW C.P C.gl call)(T:nd call (fl C.P) il (fun k=>jm (bits.getD k 0) k) st h0 r)(hil:jE C ops.toList ops.toList=some il)(hbits:pa ops.toList bits=true)(hdraw:pb il bits=true)
 (hnd:C.aP.Nodup) (hlt:∀t∈C.aP,t<C.N) (hpl:(st 0).s.pe.length=C.aP.length) (hgl:∀g v,C.gl g=some v->v.top<=(st 0).s.hp.length) {S:Nat->Prop} {ρ:aM} {H:ae} {a:Act} {w:World}
 (I:Inv C il st r bits ρ0 w0 df S ρ H a w) {k:Nat} {o:Oper} (ho:ops[k]? = some o) (hS:¬S k) (hready:∀e∈o.after,Region.binds .any e=true->S e.on) {ro:Option Nat} {K:Act->World->Prop} {Q:Exit->Act->World->Prop}
 (hK:∀ρn H' a' w',Inv C il st r bits ρ0 w0 df (fun i=>S i\/i=k) ρn H' a' w'->K a' w'):wpOpIn (FR ro) 0 C.P ops Q k K a w:=by
 obtain⟨hlen,hget⟩:=rk hil;obtain⟨io,hio,hoi⟩:=hget k o aw;obtain⟨hd,hop,hg⟩:=Gt hoi;have hk:k<il.length:=(aW.1 hio).1;have sk:=T.step k io hio;obtain⟨hbb,hbt⟩:=GB hbits ho;have hb3:∀j,j<k->(bits.getD k 0).testBit j=true->S j:=by
  intro j hj hbit;obtain⟨e,he,hb,hor⟩:=hbt j hj hbit;have hSe:=hready e he hb;have hek:=hbb e he hb;rcases hor with rfl|hor
  . exact hSe
  . exact I.zU e.on hSe ac j hor.1 hor.2
 have hb1:∀j,j<k->¬S j->j∈jm (bits.getD k 0) k:=by
  intro j hj hSj;rw[GC];refine⟨hj,?_⟩;rw[db];exact aw
 have hb2:∀j,k<j->j<il.length->S j->k∈jm (bits.getD j 0) j:=by
  intro j hj hjl hSj;rw[GC];refine⟨hj,?_⟩;rw[db];exact fun hbit=>hS (I.zU j hSj hjl k hj hbit)
 have hap:=PR hdraw;have hkey:∀(b:Nat) x,(h0 k)[b]? = some (some x)->H[b]? = some (some x)/\x.top<=(st k).s.hp.length:=by
  intro b x hb;refine I.heap b k ac ?_ ?_ x (sk.known b x hb)
  . intro i hi hoi;rcases l9 (S i) with h|h
    . exact h
    . have:=sk.off b x hb i (hb1 i hi h) hi;rcases hoi with hoi|hoi<;>grind
  . intro j hj hjl hSj hoj;have hne:j≠k:=aw;have hun:=hb2 j ac hjl hSj;rcases hoj with hoj|hoj
    . exact(T.step j il[j] aq).PG k hun ac b hoj x hb
    . have h1:=(aW.1 hb).1;rw[sk.len]at h1;have:=T.iH (i:=k) (j:=j) ac ac<;>grind
 have hslot:∀y∈io.gO,∀v,(st k).s.ah y=some v->VS C ρ w a.tmps y v/\((∃c,y = .c c)\/v.top<=(st k).s.hp.length):=by
  intro y hy v hv;refine I.slot y k ac ?_ ?_ v hv
  . intro i oi hi hoi hs;rcases l9 (S i) with h|h
    . exact h
    . obtain⟨oj,hoj,hapt⟩:=hap k io hio i (hb1 i hi h);rw[hoi]at hoj;cases hoj;simp only[oO,aZ]at hapt<;>grind
  . intro j oj hj hoj hSj;have hne:j≠k:=aw;have hjl:=(aW.1 hoj).1;obtain⟨ok,bT,hapt⟩:=hap j oj hoj k aw;rw[hio]at bT;cases bT;simp only[oO,aZ]at hapt<;>grind
 have iQ:∀{x:AV} {v:Value},V ρ w x v->x.top<=(st k).s.hp.length->V (ew (st k).s.hp.length ρ) w x v:=fun hv ht=>
  hv.gC (fun b hb=>by simp only[ew];grind) (fun c hc=>hc.ew _) ht
 have hmem:Mem C.P C.gl (ew (st k).s.hp.length ρ) (h0 k) w:=by
  refine⟨?_,?_,?_,?_,?_,?_,?_⟩
  . intro b x hb;have h1:=(aW.1 hb).1;rw[sk.len]at h1;obtain⟨g1,g2⟩:=hkey b x hb;exact(I.mem.dm b x g1).gC (fun b hb=>by simp only[ew];grind) (fun c hc=>hc.ew _) h1 g2
  . intro b hb;rw[sk.len]at hb;simp only[ew];grind
  . intro b b' c d d' h1 h2;simp only[ew]at h1 h2;split at h1
    . split at h2
      . exact I.mem.inj _ _ _ _ _ h1 h2
      grind
    grind
  . intro b c d h1;simp only[ew]at h1;split at h1
    . exact I.mem.bound _ _ _ h1
    grind
  . rintro c (hc|⟨b,d,_,hb⟩)
    . exact I.mem.xb c hc
    . exact I.mem.bound _ _ _ hb
  . intro b c d h1 hX;simp only[ew]at h1;split at h1
    . rename_i hlt';rcases hX with hX|⟨b',d',hge,hb'⟩
      . exact I.mem.xo _ _ _ h1 hX
      . have:=I.mem.inj _ _ _ _ _ h1 hb'<;>grind
    grind
  . intro g v hg';refine iQ (I.mem.gl g v hg') ?_;have:=hgl g v hg';have:=T.iH (i:=0) (j:=k) ac ac;omega
 have hrel:Rel C (ew (st k).s.hp.length ρ) (restrict io.gO (st k).s (h0 k)) a w:=by
  refine⟨PM I.size hnd hlt (by rw[T.GA ac];exact hpl) ?_ _,hmem⟩;intro y hy v hv;obtain⟨g1,g2⟩:=hslot y hy v hv;cases y with
  | p i=>exact fun t ht=>iQ (g1 t ht) aw
  | l t=>exact⟨g1.1,g1.2.1,iQ g1.2.2 aw⟩
  | c _=>trivial
 have hfin:∀(v':Value) (w':World) (ρ':aM),V ρ' w' (r k).v v'->Mem C.P C.gl ρ' (r k).h w'->Ext (h0 k) (r k).h (ew (st k).s.hp.length ρ) ρ' w w'->K (a.put o.dst v') w':=by
  intro v' w' ρ' hv m' x;obtain⟨ρn,H',I'⟩:=Inv.after T I hnd hio hS hap hb1 hb2 hb3 aw hd hv m' x;exact aw
 obtain⟨b,hw,hb1',hb0'⟩:=sk.wanted;have hwr:eZ (restrict io.gO (st k).s (h0 k)) io.guard=some b:=by
  rw[←hw];unfold eZ;cases hgd:io.guard with
  | none=>rfl
  | some g=>
   obtain⟨y,want⟩:=g;simp only;rw[Gx (s:=(st k).s) (y:=y) (us:=io.gO) (by simp[aY.gO,hgd])]
 have hwant:=zI hrel hg hwr;unfold wpOpIn;rw[ho];simp only[hwant];cases b with
 | true=>
  simp only[if_true];have hq:bX call (fl C.P) (restrict io.gO (st k).s (h0 k)) io.op=some (r k):=by
   rw[←hb1' rfl];refine Gs rfl fun y hy=>?_
   rw[Gx (by simp[aY.gO,hy])];cases y <;> rfl
  refine Gp hcall hrel hop hq ?_;rintro v' w' ⟨ρ',hv,m',x⟩;exact hfin v' w' ρ' hv m' x
 | false=>
  simp only[bj,if_false];refine⟨fun _ _=>trivial,?_⟩;have e:=hb0' rfl;refine hfin undef w (ew (st k).s.hp.length ρ) ?_ ?_ ?_
  . grind[V.undef]
  . grind
  grind[Ext.refl]
end Go.Ab
namespace Go.Ab
variable {call:ee} {il:List aY} {st:Nat->au} {h0:Nat->ae} {r:Nat->HR} {C:Cx} {bits:List Nat} {ρ0:aM} {w0:World} {df:List Deferred} {ops:Array Oper}
theorem all_true (l:List Bool)(h:l.count false=0)(i:Nat)(hi:i<l.length):l[i]? = some true:=by
 grind
theorem PS (hcall:lW C.P C.gl call)(T:nd call (fl C.P) il (fun k=>jm (bits.getD k 0) k) st h0 r)(hil:jE C ops.toList ops.toList=some il)(hbits:pa ops.toList bits=true)(hdraw:pb il bits=true)
 (hnd:C.aP.Nodup) (hlt:∀t∈C.aP,t<C.N) (hpl:(st 0).s.pe.length=C.aP.length) (hgl:∀g v,C.gl g=some v->v.top<=(st 0).s.hp.length) {ro:Option Nat} {Q:Exit->Act->World->Prop}
 (hQ:∀(S:Nat->Prop) ρ H a w,(∀i,i<il.length->S i)->Inv C il st r bits ρ0 w0 df S ρ H a w->Q .normal a w) :
 ∀(fuel:Nat) (listed:Array Bool) (ρ:aM) (H:ae) (a:Act) (w:World),listed.size=ops.size->Inv C il st r bits ρ0 w0 df (fun i=>listed[i]? = some true) ρ H a w->listed.toList.count false<=fuel ->
  wpAnyIn (FR ro) 0 C.P .any ops Q fuel listed a w:=by
 have hlen:il.length=ops.size:=by have:=(rk hil).1;simpa using this
 intro fuel;induction fuel with
 | zero=>
  intro listed ρ H a w hsz I hc;have hall:∀i,i<ops.size->listed[i]? = some true:=fun i hi=>by
   have:=all_true listed.toList ac i aw;grind
  refine⟨?_,hQ _ ρ H a w aw I⟩;rw[List.eq_nil_iff_forall_not_mem];intro i hi;obtain⟨h1,o,h2,_⟩:=mem_ready.1 hi;have hi':=(iK.1 h2).1<;>simp_all
 | succ fuel ih=>
  intro listed ρ H a w hsz I hc;refine⟨fun hr=>?_,fun k hk=>?_⟩
  . refine hQ _ ρ H a w (fun i=>?_) I;induction i using jN with
    | _ i ihi=>
     intro hi;have hi':i<ops.size:=by omega
     have hl:i<listed.size:=by omega
     cases hq:listed[i] with
     | true=>grind
     | false=>
      exfalso;have:i∈Region.ready .any ops listed:=by
       rw[mem_ready];refine⟨by simp_all,ops[i],aq,fun e he hb=>?_⟩;have hon:=(GB (bits:=bits) hbits (i:=i) (o:=ops[i]) aq).1 e he hb;have:=ihi e.on hon ac;rw[b7,this];rfl
      grind
  . obtain⟨h1,o,h2,h3⟩:=mem_ready.1 hk;have hk':=(iK.1 h2).1;have hl:k<listed.size:=by omega
    have hkf:listed[k]? = some false:=by
     rw[b7]at h1;cases hq:listed[k]? with
     | none=>grind
     | some b=>grind
    refine Inv.step hcall T hil hbits hdraw hnd hlt hpl hgl I h2 aw (fun e he hb=>?_) ?_
    . have:=h3 e he hb;rw[b7]at this;grind
    grind
theorem PT (hcall:lW C.P C.gl call)(hmix:C.P.follows .mixedOrders=true)(hwr:∀g as h r,call g as h=some r->fD h r){ro:Option Nat}{id:Nat}{ρ:aM}{a:Act}{w:World}(hil:jE C ops.toList ops.toList=some il)(hbits:pa ops.toList bits=true)(hdraw:pb il bits=true)
 {Q:Exit->Act->World->Prop} {s s':au} (rel:Rel C ρ s.s a w) (hq:dS call (fl C.P) (il.zipIdx.map fun (o,i)=>(o,jm (bits.getD i 0) i)) ⟨{ s.s with lo:=[] },s.wr⟩ []=some s')
 (hQ:∀ρ' a' w',Rel C ρ' s'.s a' w'->Ext s.s.hp s'.s.hp ρ ρ' w w'->a'.defers=a.defers->s'.s.cg=s.s.cg->Q .normal a' w'):(Code.region id ops true).wpIn (FR ro) 0 C.P Q a w:=by
 obtain⟨hlen,hget⟩:=rk hil;have hlen':il.length=ops.size:=by simpa using hlen
 obtain⟨st,h0,r,_,e2,e3,e4⟩:=trace _ _ [] s' (fun _=>s) (fun _=>[]) (fun _=>⟨.dj,[],[]⟩) (by intro j d hj;simp at hj) hq;simp only[fF,ii,nz,List.length_zipIdx]at e2 e3 e4;have T:nd call (fl C.P) il (fun k=>jm (bits.getD k 0) k) st h0 r:=by
  refine⟨fun k o ho=>e4 k o _ ?_,hwr⟩;rw[dU,List.getElem?_zipIdx,ho];simp
 have hst0:(st 0).s.hp=s.s.hp:=by rw[e2]
 have hpe0:(st 0).s.pe=s.s.pe:=by rw[e2]
 have hn:(st il.length)=s':=e3;have er:=rel.er;have hgl:∀g v,C.gl g=some v->v.top<=(st 0).s.hp.length:=fun g v hg=>by
  rw[hst0];exact(rel.mem.gl g v hg).top fun b hb=>rel.mem.fresh b hb
 refine wpIn_region_any hmix ?_;have md:=rel.mem.drew (w.drawn+1);have xd:=Ext.drew s.s.hp ρ w (w.drawn+1);have hmono:=T.iH (i:=0) (j:=il.length) ac (b8 _);let H0:ae:=s.s.hp++d6 ((st il.length).s.hp.length-s.s.hp.length) (some .hole)
 have hH0:∀b,H0[b]? = if b<s.s.hp.length then s.s.hp[b]? else if b<(st il.length).s.hp.length then some (some .hole) else none:=by
  intro b;simp only[H0];rw[j9];split
  . rfl
  . grind
 have hH0len:H0.length=(st il.length).s.hp.length:=by
  simp only[H0];rw[hst0]at hmono;simp;omega
 have hext:Ext (st 0).s.hp H0 ρ ρ w { w with drawn:=w.drawn+1 }:=by
  rw[hst0];refine⟨xd.os,xd.tape,xd.output,xd.size,aw,rfl,?_,xd.same,xd.live,xd.dead,xd.nil,xd.cT,xd.back,xd.shape⟩;intro b hb;rw[hH0 b,if_pos (aW.1 hb).1];exact hb
 have hmem:Mem C.P C.gl ρ H0 { w with drawn:=w.drawn+1 }:=by
  refine⟨?_,?_,md.inj,md.bound,md.xb,md.xo,md.gl⟩
  . intro b o hb;rw[hH0 b]at hb;split at hb
    . exact md.dm b o hb
    . split at hb
      . cases hb;exact md.fresh b ac
      grind
  . intro b hb;rw[hH0len]at hb;rw[hst0]at hmono;exact md.fresh b ac
 have init:Inv C il st r bits ρ w a.defers (fun i=>(jR ops.size false)[i]? = some true) ρ H0 a { w with drawn:=w.drawn+1 }:=by
  have hnone:∀i:Nat,¬(jR ops.size false)[i]? = some true:=by
   intro i h;rw[Array.getElem?_replicate]at h;split at h <;> cases h
  refine⟨hH0len,hmem,hext,?_,?_,?_,er.size,rfl,?_⟩
  . intro k hk _ b h1 h2;have g1:=T.iH (i:=0) (j:=k) ac ac;have g2:=T.tZ hk;have g3:=T.iH (i:=k+1) (j:=il.length) ac (b8 _)<;>grind
  . intro b k hk h1 _ o ho;have hst:=T.stays (i:=0) (b:=b) (m:=k) ac hk aw;rw[hst,hst0]at ho;have hlt:=(aW.1 ho).1;refine⟨aw,?_⟩;have h3:=(rel.mem.dm b o ho).top (n:=s.s.hp.length) fun b hb=>rel.mem.fresh b hb
    have g1:=T.iH (i:=0) (j:=k) ac hk<;>grind
  . intro y k hk h1 _ v hv;have hst:=T.zQ (i:=0) (y:=y) (m:=k) ac hk aw;rw[hst,e2]at hv;have g1:=T.iH (i:=0) (j:=k) ac hk;rw[hst0]at g1;cases y with
    | p i=>
     simp only[St.ah]at hv;have hi:=(aW.1 hv).1;have hp:=er.ke;refine⟨fun t ht=>(er.pe i v t hv ht).mono xd,.inr ?_⟩;have h3:=(er.pe i v C.aP[i] hv aq).top (n:=s.s.hp.length) fun b hb=>rel.mem.fresh b hb<;>grind
    | l t=>simp[St.ah]at hv
    | c c=>exact⟨trivial,.inl ⟨c,rfl⟩⟩
  . grind
 refine PS hcall T hil hbits hdraw er.nodup er.lt (by rw[hpe0];exact er.ke) hgl (ρ0:=ρ) (w0:=w) (df:=a.defers) ?_ ops.size _ ρ H0 a _ aq init ?_
 . intro S ρ1 H a1 w1 hall I;have hblk:∀b o,(st il.length).s.hp[b]? = some (some o)->H[b]? = some (some o):=fun b o ho=>
    (I.heap b il.length (b8 _) aw ac o ho).1
   have hslot:∀y v,(st il.length).s.ah y=some v->VS C ρ1 w1 a1.tmps y v:=fun y v hv=>
    (I.slot y il.length (b8 _) aw (fun j o hj ho=>by
     grind) v hv).1
   rw[hn]at hblk hslot;have hl1:H.length=s'.s.hp.length:=by rw[I.hlen,hn]
   refine hQ ρ1 a1 w1 ⟨⟨I.size,er.nodup,er.lt,?_,fun i v t hv ht=>hslot (.p i) v hv t ht,fun t v hv=>hslot (.l t) v hv⟩,?_⟩ ?_ I.gA ?_
   . rw[←hn,T.GA (b8 _),hpe0];exact er.ke
   . exact⟨fun b o hb=>I.mem.dm b o (hblk b o hb),fun b hb=>I.mem.fresh b ac,I.mem.inj,I.mem.bound,I.mem.xb,I.mem.xo,I.mem.gl⟩
   . have x:=I.ext;rw[hst0]at x;refine⟨x.os,x.tape,x.output,x.size,aw,x.X,fun b hb=>?_,x.same,x.live,x.dead,x.nil,x.cT,x.back,x.shape⟩;rw[←hn];exact T.dj aw (b8 _)
   . rw[←hn,T.cg (b8 _),e2]
 simp
end Go.Ab
namespace Go.Ab
variable {c:Code}
variable {P:Program} {gl:Nat->Option AV} {ρ:aM} {w:World} {h:ae} {C:Cx} {s:St} {a:Act}
section scope
variable {F:Fence} {n:Nat} {b:Frame} {k:List Item} {cs:List Frame} {Q:Exit->Act->World->Prop}
theorem pn:step P (lone (b.atR a (.code (.scope c)::k)) cs w) = .next (lone (b.atR a (.code c :: .inScope c::k)) cs w):=
 (by rfl)
theorem PU:step P (lone (b.atR a (.inScope c::k)) cs w) = .next (lone (b.atR a k) cs w):=
 (by rfl)
def noGoto (Q:Exit->Act->World->Prop):Exit->Act->World->Prop
 | .goto _,_,_=>False
 | e,a,w=>Q e a w
theorem PV (h:c.wpIn F n P (noGoto Q) a w):(Code.scope c).wpIn F n P Q a w:=by
 intro b k cs hro hb hr;have h0:(lone (b.atR a (.code (.scope c)::k)) cs w).fenced P F:=fenced_calm hb hr rfl;obtain⟨e,a₁,w₁,hq,harr⟩:=h b (.inScope c::k) cs hro hb hr;cases e with
 | normal=>exact⟨.normal,a₁,w₁,hq,.head h0 pn (StepsIn.trans harr (.one (fenced_calm hb hr rfl) PU))⟩
 | exit id=>exact⟨_,a₁,w₁,hq,fun k' hk=>.head h0 pn (harr.1 k' (by simp[exitTo,hk])),
     fun hr' hk=>let ⟨k₁,h1,h2⟩:=harr.2 hr' (by simp[exitTo,hk]);⟨k₁,h1,.head h0 pn h2⟩⟩
 | goto l=>exact hq.elim
 | ret=>exact⟨_,a₁,w₁,hq,.of_steps (.one h0 pn) harr⟩
 | panic ch=>exact⟨_,a₁,w₁,hq,.of_steps (.one h0 pn) harr⟩
 | outgrown=>exact⟨_,a₁,w₁,hq,.of_steps (.one h0 pn) harr⟩
end scope
def fL (s s':au):Prop:=s.s.hp.length<=s'.s.hp.length/\(∀b∈s.wr,b∈s'.wr)/\∀b,b<s.s.hp.length->b∉s'.wr->s'.s.hp[b]? = s.s.hp[b]?
theorem fL.refl (s:au):fL s s:=⟨b8 _,fun _ h=>h,fun _ _ _=>rfl⟩
theorem fL.trans {s s1 s2:au}(x:fL s s1)(y:fL s1 s2):fL s s2:=
 ⟨Nat.le_trans x.1 y.1,fun b hb=>y.2.1 b (x.2.1 b hb),fun b hb hn=>by
  rw[y.2.2 b (dr hb x.1) hn,x.2.2 b hb (fun h=>hn (y.2.1 b h))]⟩
theorem fL.step {s:au}{q:HR}{x:St}(hx:x.hp=q.h)(hq:fD s.s.hp q):fL s ⟨x,q.wr++s.wr⟩:=
 ⟨by rw[hx];exact hq.1,fun b hb=>aw,fun b hb hn=>by
  simp only[c7,not_or]at hn;show x.hp[b]? = _;rw[hx];exact hq.2 b hb hn.1⟩
theorem fL.same {s:au}{x:St}(hx:x.hp=s.s.hp):fL s ⟨x,s.wr⟩:=⟨aw,fun _ h=>h,fun b _ _=>by grind⟩
theorem zV (s:St)(d:fj)(v:AV):(s.put d v).hp=s.hp:=by cases d <;> rfl
theorem zW {call:ee}{inv:eW}(hcall:∀g as h r,call g as h=some r->fD h r):∀(l:List aY) (s s':au),fk call inv l s=some s'->fL s s'
 | [],s,s',h=>by cases h;exact .refl _
 | o::l,s,s',h=>by
  simp only[fk]at h;split at h
  . split at h
    . rename_i q hq;exact(fL.step rfl (zK hcall hq)).trans (zW hcall l _ s' h)
    . cases h
  . exact(fL.same (zV _ _ _)).trans (zW hcall l _ s' h)
  . cases h
theorem zX {call:ee}{inv:eW}:∀(l:List aY) (s s':au),fk call inv l s=some s'->s'.s.cg=s.s.cg
 | [],s,s',h=>by cases h;rfl
 | o::l,s,s',h=>by
  have hp:∀(s:St) (d:fj) (v:AV),(s.put d v).cg=s.cg:=fun s d v=>by cases d <;> rfl
  simp only[fk]at h;split at h
  . split at h
    . exact(zX l _ s' h).trans (hp _ _ _)
    . cases h
  . exact(zX l _ s' h).trans (hp _ _ _)
  . cases h
theorem PW {call:ee}{inv:eW}(hcall:∀g as h r,call g as h=some r->fD h r){l:List (aY×List Nat)}{s s':au}(h:dS call inv l s []=some s'):fL s s':=by
 obtain⟨st,h0,r,_,e2,e3,e4⟩:=trace l s [] s' (fun _=>s) (fun _=>[]) (fun _=>⟨.dj,[],[]⟩) (by intro j d hj;simp at hj) h;simp only[fF,ii]at e2 e3 e4;have key:∀k,k<=l.length->fL (st 0) (st k):=by
  intro k;induction k with
  | zero=>intro _;exact .refl _
  | succ k ih=>
   intro hk;refine(ih ac).trans ?_;have sk:=e4 k l[k].1 l[k].2 (az ac);have hwr:fD (h0 k) (r k):=by
    obtain⟨b,_,h1,h2⟩:=sk.wanted;cases b with
    | true=>exact zK hcall (h1 rfl)
    | false=>rw[h2 rfl];exact pk _
   have hl:(st k).s.hp.length<=(r k).h.length:=by have:=hwr.1;rw[sk.len]at this;exact this
   rw[sk.next];refine⟨by grind[rj],fun b hb=>aw,fun b hb hn=>?_⟩;simp only[c7,not_or]at hn;show (fA (r k).wr (st k).s.hp (r k).h 0)[b]? = _;rw[jH _ _ _ _ _ hl,if_pos hb];grind
 grind
def DF (ρ:aM)(ds:List Nat)(l:List Deferred):Prop:=
 ds.length=l.length/\∀(i:Nat) b d,ds[i]? = some b->l[i]? = some d->∃c,d = { target:=.collected c,args:=#[] }/\(ρ b = .live c 0\/ρ b = .dead)
theorem DF.mono {h h':ae}{ρ ρ':aM}{w w':World}(x:Ext h h' ρ ρ' w w'){ds:List Nat}{l:List Deferred}(hd:DF ρ ds l):DF ρ' ds l:=
 ⟨hd.1,fun i b d h1 h2=>by
  obtain⟨c,h3,h4⟩:=hd.2 i b d h1 h2;refine⟨c,h3,?_⟩;rcases h4 with h4|h4
  . exact x.live _ _ _ h4
  . exact .inr (x.dead _ h4)⟩
theorem zY:∀(ds:List Nat) (s s':au),kD ds s=some s'->fL s s'/\s'.s.pe=s.s.pe/\s'.s.lo=s.s.lo
 | [],s,s',h=>by cases h;exact⟨.refl _,rfl,rfl⟩
 | d::ds,s,s',h=>by
  simp only[kD]at h;split at h
  . obtain⟨h1,h2,h3⟩:=zY ds _ s' h;refine⟨fL.trans ⟨by simp[ae.put],fun b hb=>aw,fun b hb hn=>?_⟩ h1,h2,h3⟩;simp only[cd,not_or]at hn;exact lI hn.1
  . cases h
theorem GD {F:Fence}{n:Nat}{fn:Func}{tmps:Array Value}{R:Ending->World->Prop}:∀(ds:List Nat) (l:List Deferred) (s s':au) (w:World),DF ρ ds l->Mem P gl ρ s.s.hp w->kD ds s=some s' ->
 (∀w',Mem P gl ρ s'.s.hp w'->Ext s.s.hp s'.s.hp ρ ρ w w'->LeavesInM F n P fn tmps R [] .returning w')->LeavesInM F n P fn tmps R l .returning w
 | [],l,s,s',w,hd,m,hq,hk=>by
  have:l=[]:=by have:=hd.1;cases l <;> simp_all
  subst this;cases hq;grind[Ext.refl]
 | b::ds,[],s,s',w,hd,m,hq,hk=>by have:=hd.1;grind
 | b::ds,d::l,s,s',w,hd,m,hq,hk=>by
  simp only[kD]at hq;split at hq
  . rename_i hb;have h0:=pj hb;obtain⟨c,g1,g2⟩:=m.dm b _ h0;obtain⟨c',g3,g4⟩:=hd.2 0 b d rfl rfl;have:c'=c:=by
     rcases g4 with g4|g4
     . grind
     . grind
    subst this;have hO:∀cs0 e0 fr0,w.heap[c']? = some (.cells cs0 e0 fr0)->∃cs' fr',Obj.deferred none = .cells cs' e0 fr'/\cs'.size=cs0.size:=by
     intro _ _ _ hq';rw[g2]at hq';cases hq'
    have x:=Ext.write m h0 g1 none (.deferred none) hO;have m1:=Mem.write m h0 g1 none (.deferred none) hO aq;refine⟨aq,.inl ⟨c',w.dE c' (.deferred none),by rw[g3],?_,?_⟩⟩
    . simp[Instr.takeDeferred,lQ g2,mW g2]
    . exact GD ds l _ s' _ ⟨by have:=hd.1;grind,fun i b d h1 h2=>hd.2 (i+1) b d aw aw⟩ m1 hq
       fun w' m' x'=>hk w' m' (x.trans x')
  grind
theorem GF {ρ ρ':aM}{w w':World}{h:ae}(m:Mem P gl ρ h w){s:au}(hwr:h.length<=s.s.hp.length/\∀b,b<h.length->b∉s.wr->s.s.hp[b]? = h[b]?){v:AV}{v':Value}(hv:V ρ' w' v v')(m':Mem P gl ρ' s.s.hp w')(x:Ext h s.s.hp ρ ρ' w w') :
 fe P gl ρ h w (fW v h.length s) v' w':=by
 unfold fW;split
 . rename_i hc;simp only[aZ,decide_eq_true_eq]at hc;obtain⟨htop,htight⟩:=hc;have hb:∀b,b<h.length->ρ b≠.fresh->True:=aq;have cut_lt:∀b,b<h.length->(iX h.length ρ') b=ρ' b:=fun b hb=>by simp only[iX];grind
   have cut_ge:∀b,h.length<=b->(iX h.length ρ') b = .fresh:=fun b hb=>by simp only[iX];grind
   have cT:∀b,ρ b≠.fresh->b<h.length:=fun b hb=>by
    rcases bc b h.length with h'|h'
    . exact h'
    . exact absurd (m.fresh b h') hb
   have get:∀b,(s.s.hp.take h.length)[b]? = if b<h.length then s.s.hp[b]? else none:=fun b=>by
    grind
   refine⟨iX h.length ρ',hv.cut htop,?_,?_⟩
   . refine⟨?_,?_,?_,?_,m'.xb,?_,fun g u hg=>(m'.gl g u hg).cut ?_⟩
     . intro b o hb;rw[get b]at hb;split at hb
       . rename_i hlt;refine(m'.dm b o hb).gC (n:=h.length) cut_lt (fun c hc=>hc.cut _) hlt ?_;rcases l9 (b∈s.wr) with hw|hw
         . have:=c5.1 htight b hw;unfold ae.at at this;grind
         . rw[hwr.2 b hlt hw]at hb;exact(m.dm b o hb).top aw
       grind
     . grind
     . intro b b' c d d' h1 h2;simp only[iX]at h1 h2;split at h1
       . split at h2
         . exact m'.inj _ _ _ _ _ h1 h2
         grind
       grind
     . intro b c d h1;simp only[iX]at h1;split at h1
       . exact m'.bound _ _ _ h1
       grind
     . intro b c d h1;simp only[iX]at h1;split at h1
       . exact m'.xo _ _ _ h1
       grind
     . exact(m.gl g u hg).top aw
   . refine⟨x.os,x.tape,x.output,x.size,aw,x.X,?_,?_,?_,?_,?_,x.cT,?_,x.shape⟩
     . intro b hb;have hlt:=(aW.1 hb).1;rw[get b,if_pos hlt];exact x.dj b hb
     . intro b hb;have hlt:=(aW.1 hb).1;rw[cut_lt b hlt];exact x.same b hb
     . intro b c d hb;rw[cut_lt b aw];exact x.live b c d hb
     . intro b hb;rw[cut_lt b aw];exact x.dead b hb
     . intro b hb;rw[cut_lt b aw];exact x.nil b hb
     . intro b c d hb hc;simp only[iX]at hb;split at hb
       . exact x.back b c d hb hc
       grind
 . exact⟨ρ',hv,m',x⟩
theorem GG {h:ae}{s:au}(hwr:h.length<=s.s.hp.length/\∀b,b<h.length->b∉s.wr->s.s.hp[b]? = h[b]?)(v:AV):fD h (fW v h.length s):=by
 unfold fW;have key:∀b,b<h.length->b∉s.wr.filter (· < h.length)->b∉s.wr:=by
  intro b hb hn hm;exact aw
 split
 . refine⟨aw,fun b hb hn=>?_⟩;grind
 . exact⟨hwr.1,fun b hb hn=>aw⟩
end Go.Ab
namespace Go.Ab
variable {P:Program} {gl:Nat->Option AV} {ρ:aM} {w:World} {h:ae} {C:Cx} {s:St} {a:Act}
def ub:Ex->Exit
 | .normal=>.normal
 | .exit i=>.exit i
 | .ret=>.ret
structure kK (P:Program)(gl:Nat->Option AV)(run:ao->au->Option (Ex×au)):Prop where
 wr:∀c s e s',run c s=some (e,s')->fL s s'
 ok:∀c s e s',run c s=some (e,s')->∀aP N rd code,fI ⟨P,gl,aP,N⟩ rd code=some c->∀ρ a w ro,Rel ⟨P,gl,aP,N⟩ ρ s.s a w->DF ρ s.s.cg a.defers->(rd=false->ro=none) ->
  ∀Q:Exit->Act->World->Prop,(∀ρ' a' w',Rel ⟨P,gl,aP,N⟩ ρ' s'.s a' w'->DF ρ' s'.s.cg a'.defers->Ext s.s.hp s'.s.hp ρ ρ' w w'->Q (ub e) a' w')->code.wpIn (FR ro) 0 P Q a w
def lZ (P:Program)(gl:Nat->Option AV)(FT:FuncId->Option cU):Prop:=
 ∀f fi, FT f = some fi -> ∃fn aP, P.funcs[f]? = some fn /\ (fn.name == "runtime.NumGoroutine") = false /\ tH P gl aP fn = some fi
def cB (P:Program)(gl:Nat->Option AV)(ext:FuncId->List AV->ae->Option HR):Prop:=
 ∀f all h r,ext f all h=some r->fD h r/\∀ρ w (as':List Value),Mem P gl ρ h w->VL ρ w all as' ->
  ∃nx w1,(callFunc f as'.toArray).run P w = .ok nx w1/\jn P nx w1 fun v w'=>fe P gl ρ h w r v w'
theorem PX {aP:List Nat}{fn:Func}{fi:cU}(h:tH P gl aP fn=some fi) :
 ∃c,fn.body=some c/\fI ⟨P,gl,aP,fn.ntmps⟩ false c=some fi.body/\kG ⟨P,gl,aP,fn.ntmps⟩ fn.results.toList=some fi.results/\fi.aP=aP/\fi.N=fn.ntmps/\(∀t∈aP,t<fn.ntmps)/\aP.Nodup:=by
 unfold tH at h;grind
def uc (tmps:Array Value):ResultVar->Sem Value
 | .tmp t=>pure (tmps.getD t undef)
 | .cell p t=>do loadVar t (←asAddr (tmps.getD p undef))
theorem zZ (r:Rel C ρ s a w):∀(l:List ResultVar) (cr:List fw) (vs:List AV),kG C l=some cr->dH s cr=some vs ->
 ∃m:List Value,(l.mapM (uc a.tmps)).run C.P w = .ok m w/\VL ρ w vs m
 | [],cr,vs,h1,h2=>by
  simp only[kG,b5.injEq]at h1;subst h1;simp only[dH,b5.injEq]at h2;subst h2;exact⟨[],aq,.nil⟩
 | .tmp t::l,cr,vs,h1,h2=>by
  simp only[kG]at h1;split at h1
  . rename_i x l' hx hl;cases h1;simp only[dH]at h2;split at h2
    . rename_i v vs' hv hvs;cases h2;obtain⟨m,h3,h4⟩:=zZ r l l' vs' hl hvs;refine⟨a.tmps.getD t undef::m,?_,.cons (r.ah hx hv) h4⟩;rw[nO];simp only[uc,c8,d8,ci];rw[h3];rfl
    . cases h2
  . cases h1
 | .cell p t::l,cr,vs,h1,h2=>by
  simp only[kG]at h1;split at h1
  . rename_i x n ag l' hx hs hl;cases h1;simp only[dH]at h2;split at h2
    . rename_i v vs' hv hvs;cases h2;obtain⟨m,h3,h4⟩:=zZ r l l' vs' hl hvs;simp only[Option.bind_eq_some_iff]at hv;obtain⟨px,g1,pl,g2,g3⟩:=hv;obtain⟨c,o,g,e1,e2⟩:=readable r.mem (r.ah hx g1) g2;obtain⟨v',e3,e4⟩:=Gb hs e2 g3;have e1':a.tmps.getD p undef = .pointer (some ⟨c,o,none⟩):=e1;refine⟨v'::m,?_,.cons e4 h4⟩;rw[nO];simp only[uc,c8,e1',asAddr,d8,ci,e3]<;>simp_all
    grind
  grind
theorem PY {vs:List AV}{m:List Value}(h:VL ρ w vs m):V ρ w (aV vs) (if h:m.toArray.size=1 then m.toArray[0] else .tuple m.toArray):=by
 match vs,m,h with
 | [],m,h=>rw[h.jF];exact V.iG .nil
 | [v],m,h=>
  obtain⟨y,m',rfl,h1,h2⟩:=h.cons_inv;rw[h2.jF];exact h1
 | v::u::vs,m,h=>
  obtain⟨y,m',rfl,h1,h2⟩:=h.cons_inv;obtain⟨z,m'',rfl,h3,h4⟩:=h2.cons_inv;rw[dif_neg aq];exact V.iG ac
theorem PZ (r:Rel C ρ s a w){fn:Func}{cr:List fw}{vs:List AV}(h1:kG C fn.results.toList=some cr)(h2:dH s cr=some vs) :
 ∃v,(results fn a.tmps).run C.P w = .ok v w/\V ρ w (aV vs) v:=by
 obtain⟨m,h3,h4⟩:=zZ r fn.results.toList cr vs h1 h2;refine⟨_,?_,PY h4⟩;have e:results fn a.tmps=(do let vs ←fn.results.mapM (uc a.tmps);pure (if h:vs.size=1 then vs[0] else .tuple vs)):=by
  unfold results;congr 1
 rw[e,c8,Array.mapM_eq_mapM_toList,Sem.run_map,h3];rfl
theorem Qa {aP:List Nat}{N:Nat}{all:List AV}{as':List Value}(hv:VL ρ w all as')(hn:as'.length<=N)(hlt:∀t∈aP,t<N)(hnd:aP.Nodup) :
 ER ⟨P,gl,aP,N⟩ ρ w (aP.map fun t=>(all[t]?).getD cG) [] (as'.toArray++jR (N-as'.toArray.size) undef):=by
 refine⟨aw,hnd,hlt,aq,fun i v t h1 h2=>?_,aq⟩;simp only[dU,be]at h1;obtain⟨u,h3,rfl⟩:=h1;have h2':aP[i]? = some t:=h2;rw[h3]at h2';obtain rfl:u=t:=aw;rw[b7,Array.getElem?_append];split
 . rename_i hlt';have hl:u<as'.length:=by simpa using hlt'
   have hl2:u<all.length:=by rw[hv.length];exact hl
   have:=hv.2 u all[u] as'[u] (az hl2) (az hl)<;>grind
 . rename_i hge;have hl:as'.length<=u:=by simpa using hge
   have hl2:all.length<=u:=by rw[hv.length];exact hl
   grind[f8,V.undef]
theorem GH {run:ao->au->Option (Ex×au)}(hrun:kK P gl run){FT:FuncId->Option cU}{f:FuncId}{all:List AV}{h:ae}{q:HR}(hq:gQ run FT f all h=some q):fD h q:=by
 unfold gQ at hq;split at hq <;> try (cases hq;done)
 split at hq <;> try (cases hq;done)
 split at hq <;> try (cases hq;done)
 rename_i e s hr;split at hq <;> try (cases hq;done)
 split at hq <;> try (cases hq;done)
 rename_i s2 ht;split at hq <;> try (cases hq;done)
 cases hq;have h1:=hrun.wr _ _ _ _ hr;have h2:=(zY _ _ _ ht).1;have h3:=h1.trans h2;exact GG ⟨h3.1,fun b hb hn=>h3.2.2 b hb hn⟩ _
theorem ud {run:ao->au->Option (Ex×au)}(hrun:kK P gl run){FT:FuncId->Option cU}(hFT:lZ P gl FT){f:FuncId}{all:List AV}{h:ae}{q:HR}(hq:gQ run FT f all h=some q)
 {as':List Value} (m:Mem P gl ρ h w) (hv:VL ρ w all as') :
 (callFunc f as'.toArray).run P w = .ok (.enter f as'.toArray) w/\CallsIn Fence.wide 0 P f as'.toArray w fun
   | .returned v,w'=>fe P gl ρ h w q v w'
   | _,_=>False:=by
 unfold gQ at hq;split at hq <;> try (cases hq;done)
 rename_i fi hfi;obtain⟨fn,aP,hfn,hname,hcf⟩:=hFT f fi hfi;obtain⟨c,hbody,hcode,hres,rfl,hN,hlt,hnd⟩:=PX hcf;split at hq <;> try (cases hq;done)
 rename_i hnl;split at hq <;> try (cases hq;done)
 rename_i e s hr;split at hq <;> try (cases hq;done)
 rename_i he;split at hq <;> try (cases hq;done)
 rename_i s2 ht;split at hq <;> try (cases hq;done)
 rename_i vs hvs;cases hq;refine⟨?_,?_⟩
 . have hne : fn.name ≠ "runtime.NumGoroutine" := by simpa using hname
   simp[callFunc,hfn,hne,hbody]
 . refine callsIn_of_wp_marks (F:=Fence.wide) (n:=0) hfn hbody trivial ?_;have hlen:as'.length<=fn.ntmps:=by rw[←hv.length];omega
   have er:=Qa (P:=P) (gl:=gl) hv hlen hlt hnd;refine hrun.ok _ _ _ _ hr fi.aP fn.ntmps false c hcode ρ _ w none ⟨er,m⟩ ⟨rfl,aq⟩ (fun _=>rfl) _ ?_;intro ρ' a' w' r' d' x';have hfin:LeavesInM Fence.wide 0 P fn a'.tmps (fun
    | .returned v,w'=>fe P gl ρ h w (fW (aV vs) h.length s2) v w'
    | _,_=>False) a'.defers .returning w':=by
    refine GD s.s.cg a'.defers s s2 w' d' r'.mem ht ?_;intro w2 m2 x2;have hx:=zY _ _ _ ht;have r2:Rel ⟨P,gl,fi.aP,fn.ntmps⟩ ρ' s2.s a' w2:=⟨by rw[hx.2.1,hx.2.2];exact r'.er.mono x2,m2⟩;obtain⟨v,g1,g2⟩:=PZ r2 hres hvs;have h3:=(hrun.wr _ _ _ _ hr).trans hx.1;exact⟨v,g1,GF m ⟨h3.1,fun b hb hn=>h3.2.2 b hb hn⟩ g2 m2 (x'.trans x2)⟩
   rcases he with rfl|rfl
   . exact hfin
   . exact hfin
end Go.Ab
namespace Go.Ab
variable {run:ao->au->Option (Ex×au)}
variable {P:Program} {gl:Nat->Option AV} {ρ:aM} {w:World} {h:ae} {C:Cx} {s:St} {a:Act}
theorem GI {C:Cx}:∀(ts:List Tmp) (ds:List fj) (as:List AV) (as':List Value) (s s0:St) (tmps:Array Value),lG C ts=some ds->VL ρ w as as'->ER C ρ w s.pe s.lo tmps->oT s ds as=some s0 ->
 ts.length=as'.length/\ER C ρ w s0.pe s0.lo ((ts.zip as').foldl (fun tmps (t,a)=>tmps.setIfInBounds t a) tmps)/\s0.hp=s.hp/\s0.cg=s.cg
 | [],ds,as,as',s,s0,tmps,hd,hv,er,hq=>by
  cases hd;cases as with
  | nil=>cases hq;rw[hv.jF];simp_all
  | cons _ _=>cases hq
 | t::ts,ds,as,as',s,s0,tmps,hd,hv,er,hq=>by
  simp only[lG]at hd;split at hd
  . rename_i d l h1 h2;cases hd;cases as with
    | nil=>cases hq
    | cons x as=>
     obtain⟨y,as',rfl,hy,hl⟩:=hv.cons_inv;simp only[oT]at hq;have er':=zH (s:=s) (a:=⟨tmps,[]⟩) (er:=er) h1 hy s.hp;have e:({ s.put d x with hp:=s.hp }:St)=s.put d x:=by cases d <;> rfl
     rw[e]at er';obtain⟨g1,g2,g3,g4⟩:=GI ts l as as' (s.put d x) s0 _ h2 hl er' hq;exact⟨by simp[g1],g2,g3.trans (zV _ _ _),g4.trans (by cases d <;> rfl)⟩
  grind
theorem ue {c:Nat}{r:Loop}(h:w.heap[c]? = some (.loop r)):(Instr.getLoop c).run P w = .ok r w:=by
 simp[Instr.getLoop,lQ h]
theorem uf (m:Mem P gl ρ h w){b:Nat}{st:LoopState}{pend:Option Ex}{pe:List AV}{ps:List fj}{as bd:ao}(hb:h.at b=some (.loop st pend pe ps as bd)) :
 h[b]? = some (some (.loop st pend pe ps as bd))/\∃c r aP N,ρ b = .live c 0/\w.heap[c]? = some (.loop r)/\r.state=st/\mT pend r.pending /\
  ER ⟨P,gl,aP,N⟩ ρ w pe [] r.tmps/\lG ⟨P,gl,aP,N⟩ r.params.toList=some ps/\fI ⟨P,gl,aP,N⟩ true r.assign=some as/\fI ⟨P,gl,aP,N⟩ true r.body=some bd:=
 ⟨pj hb,m.dm b _ (pj hb)⟩
theorem Aa (m:Mem P gl ρ h w){b c:Nat}{o0:bR}(h0:h[b]? = some (some o0))(hρ:ρ b = .live c 0){r:Loop}(hr:w.heap[c]? = some (.loop r))(r':Loop){st':LoopState}{pend':Option Ex}{pe:List AV}{ps:List fj}{as bd:ao}{aP:List Nat}{N:Nat}
 (hst:r'.state=st') (hp:mT pend' r'.pending) (er:ER ⟨P,gl,aP,N⟩ ρ w pe [] r'.tmps) (h1:lG ⟨P,gl,aP,N⟩ r'.params.toList=some ps) (h2:fI ⟨P,gl,aP,N⟩ true r'.assign=some as) (h3:fI ⟨P,gl,aP,N⟩ true r'.body=some bd) :
 Mem P gl ρ (h.put b (some (.loop st' pend' pe ps as bd))) (w.dE c (.loop r'))/\Ext h (h.put b (some (.loop st' pend' pe ps as bd))) ρ ρ w (w.dE c (.loop r')):=by
 have hO:∀cs0 e0 fr0,w.heap[c]? = some (.cells cs0 e0 fr0)->∃cs' fr',Obj.loop r' = .cells cs' e0 fr'/\cs'.size=cs0.size:=by
  intro _ _ _ hq';rw[hr]at hq';cases hq'
 have x:=Ext.write m h0 hρ (some (.loop st' pend' pe ps as bd)) (.loop r') hO;refine⟨Mem.write m h0 hρ _ _ hO ?_,x⟩;intro o' ho;cases ho;exact⟨c,r',aP,N,hρ,mU aw,hst,hp,er.mono x,h1,h2,h3⟩
def mc (run:ao->au->Option (Ex×au))(b:Nat)(as:List AV)(h:ae):Option HR:=
 match h.at b with
 | some (.loop .ready none pe ps a bd)=>
  match oT ⟨pe,[],h,[]⟩ ps as with
  | some s0=>match run a ⟨s0,[]⟩ with
    | some (.normal,s1)=>match s1.s.hp.at b with
      | some (.loop .ready none pe' ps' a' bd')=>
       match run bd ⟨{ s1.s with hp:=s1.s.hp.put b (some (.loop .busy none pe' ps' a' bd')) },b::s1.wr⟩ with
       | some (e,s2)=>match s2.s.hp.at b,s2.s.cg with
         | some (.loop .busy none pe' ps' a' bd'),[]=>
          some (fW (.bool (decide (e = .normal))) h.length ⟨{ s2.s with hp:=s2.s.hp.put b (some (if e = .normal then .loop .ready none pe' ps' a' bd' else .loop .done (some e) pe' ps' a' bd')) },b::s2.wr⟩)
         | _,_=>none
       | none=>none
      | _=>none
    | _=>none
  | none=>none
 | _=>none
theorem ug (s:au)(b:Nat)(o:Option bR):fL s ⟨{ s.s with hp:=s.s.hp.put b o },b::s.wr⟩:=
 ⟨by simp[ae.put],fun _ hb=>aw,fun b' _ hn=>by
  simp only[cd,not_or]at hn;exact lI hn.1⟩
theorem GJ:∀(ds:List fj) (as:List AV) (s s0:St),oT s ds as=some s0->s0.hp=s.hp
 | [],[],s,s0,h=>by cases h;rfl
 | [],_::_,s,s0,h=>by cases h
 | _::_,[],s,s0,h=>by cases h
 | d::ds,v::as,s,s0,h=>(GJ ds as _ s0 h).trans (zV _ _ _)
theorem Qb (hrun:kK P gl run){b:Nat}{as:List AV}{h:ae}{q:HR}(hq:mc run b as h=some q):fD h q:=by
 unfold mc at hq;split at hq <;> try (cases hq;done)
 split at hq <;> try (cases hq;done)
 rename_i s0 hp;split at hq <;> try (cases hq;done)
 rename_i s1 hr1;split at hq <;> try (cases hq;done)
 split at hq <;> try (cases hq;done)
 rename_i e s2 hr2;split at hq <;> try (cases hq;done)
 rename_i pe2 ps2 ai2 bi2 hb2 hd2;cases hq;have h1:=hrun.wr _ _ _ _ hr1;have h2:=hrun.wr _ _ _ _ hr2;have h3:=(h1.trans (ug s1 b _)).trans h2;have h4:=h3.trans (ug s2 b (some (if e = .normal then .loop .ready none pe2 ps2 ai2 bi2 else .loop .done (some e) pe2 ps2 ai2 bi2)));have hhp:=GJ _ _ _ _ hp;refine GG ⟨?_,?_⟩ _
 . have:=h4.1;grind
 . intro b' hb' hn;have:=h4.2.2 b' aw hn;grind
theorem Qc (l:Nat):Fence.wide.inRound l=FR (some l):=rfl
theorem Qd (hrun:kK P gl run){b:Nat}{as:List AV}{h:ae}{q:HR}(hq:mc run b as h=some q)(m:Mem P gl ρ h w){g':Value}(hg:V ρ w (.fn (.yield b) [] []) g')
 {as':List Value} (hv:VL ρ w as as'):∃nx w1,(mX g' as'.toArray).run P w = .ok nx w1/\jn P nx w1 fun v w'=>fe P gl ρ h w q v w':=by
 have hq0:=hq;unfold mc at hq;split at hq <;> try (cases hq;done)
 rename_i pe ps ai bi hb;split at hq <;> try (cases hq;done)
 rename_i s0 hp;split at hq <;> try (cases hq;done)
 rename_i s1 hr1;split at hq <;> try (cases hq;done)
 rename_i pe1 ps1 ai1 bi1 hb1;split at hq <;> try (cases hq;done)
 rename_i e s2 hr2;split at hq <;> try (cases hq;done)
 rename_i pe2 ps2 ai2 bi2 hb2 hd2;cases hq;obtain⟨h0,c,r,aP,N,g1,g2,g3,g4,g5,g6,g7,g8⟩:=uf m hb;have hge:g' = .func (.yield c) #[] #[]:=by
  cases hg with
  | yield hρ=>grind
  | fn hf=>grind
  | gY _ hρ=>grind
 subst hge;obtain⟨p1,p2,p3,p4⟩:=GI (C:=⟨P,gl,aP,N⟩) r.params.toList ps as as' ⟨pe,[],h,[]⟩ s0 r.tmps g6 hv g5 hp;have hsz:as'.toArray.size=r.params.size:=by simpa using p1.symm
 let tm:=(r.params.zip as'.toArray).foldl (fun tmps (t,a)=>tmps.setIfInBounds t a) r.tmps
 have htm:tm=(r.params.toList.zip as').foldl (fun tmps (t,a)=>tmps.setIfInBounds t a) r.tmps:=by
  simp only[tm,←Array.foldl_toList,Array.toList_zip]
 refine⟨.round c r.fn tm r.assign r.body,w,?_,?_⟩
 . simp only[mX,Deferred.ofValue,invoke,c8,d8,ci,Instr.yield];rw[ue g2];simp[hsz,tm]
 . refine roundIn_of_wpIn (F:=Fence.wide) (n:=0) trivial ?_;rw[Qc];have w1:=hrun.wr _ _ _ _ hr1;have w2:=hrun.wr _ _ _ _ hr2;refine hrun.ok ai ⟨s0,[]⟩ .normal s1 hr1 aP N true r.assign g7 ρ ⟨tm,[]⟩ w (some c) ⟨aw,aw⟩ ⟨aw,fun i b d hi _=>by grind⟩ aq _ ?_;intro ρ1 a1 v1 r1 d1 x1;rw[show (au.mk s0 []).s.hp=h from p3]at x1;obtain⟨h1',c1,rr1,pers1,N1,k1,k2,k3,k4,k5,k6,k7,k8⟩:=uf r1.mem hb1;have hc1:c1=c:=by
    rcases x1.live b c 0 g1 with hh|hh
    . grind
    . grind
   subst hc1;obtain⟨m2,x2⟩:=Aa (st':=.busy) r1.mem h1' k1 k2 { rr1 with state:=.busy } rfl k4 k5 k6 k7 k8;refine⟨v1.dE c1 (.loop { rr1 with state:=.busy }),?_,?_⟩
   . simp[Instr.beginRound,ue k2,mW k2,k3]
   . refine hrun.ok bi _ e s2 hr2 aP N true r.body g8 ρ1 a1 _ (some c1) ⟨r1.er.mono x2,m2⟩ (d1.mono x2) aq _ ?_;intro ρ2 a2 v2 r2 d2 x3;obtain⟨h2',c2,rr2,pers2,N2,l1,l2,l3,l4,l5,l6,l7,l8⟩:=uf r2.mem hb2;have hc2:c2=c1:=by
      rcases x3.live b c1 0 k1 with hh|hh
      . grind
      . grind
     subst hc2;have fin:∀(jump:Option Code) (st':LoopState) (pend':Option Ex),mT pend' jump->(if jump.isNone then LoopState.ready else LoopState.done)=st'->jump.isNone=decide (e = .normal) ->
      (if e = .normal then bR.loop .ready none pe2 ps2 ai2 bi2 else .loop .done (some e) pe2 ps2 ai2 bi2) = .loop st' pend' pe2 ps2 ai2 bi2 ->
      ∃v w',(Instr.endRound c2 jump).run P v2 = .ok v w'/\fe P gl ρ h w (fW (.bool (decide (e = .normal))) h.length ⟨{ s2.s with hp:=s2.s.hp.put b (some (if e = .normal then .loop .ready none pe2 ps2 ai2 bi2 else .loop .done (some e) pe2 ps2 ai2 bi2)) },b::s2.wr⟩) v w':=by
      intro jump st' pend' q1 q2 q3 q4;obtain⟨m4,x4⟩:=Aa (st':=st') (pend':=pend') r2.mem h2' l1 l2 { rr2 with state:=if jump.isNone then .ready else .done,pending:=jump } q2 q1 l5 l6 l7 l8;refine⟨.bool jump.isNone,v2.dE c2 (.loop { rr2 with state:=if jump.isNone then .ready else .done,pending:=jump }),?_,?_⟩
      . simp[Instr.endRound,ue l2,mW l2]
      . have h3:=(w1.trans (by grind[ug])).trans w2;have h4:=h3.trans (ug s2 b (some (if e = .normal then .loop .ready none pe2 ps2 ai2 bi2 else .loop .done (some e) pe2 ps2 ai2 bi2)));refine GF (ρ':=ρ2) m ⟨?_,?_⟩ (by rw[q3];exact .bool _) aw (by rw[q4];exact((x1.trans x2).trans x3).trans x4)
        . have:=h4.1;grind
        . intro b' hb' hn;have:=h4.2.2 b' aw hn;grind
     cases e with
     | normal=>exact fin none .ready none trivial rfl aq aq
     | ret=>exact fin (some .ret) .done (some .ret) trivial rfl aq aq
     | exit i=>exact fin (some (.exit i)) .done (some (.exit i)) rfl rfl aq aq
theorem Ac (hrun:kK P gl run){ext:FuncId->List AV->ae->Option HR}(hext:cB P gl ext){FT:FuncId->Option cU}(hFT:lZ P gl FT):lW P gl (iq run ext FT):=by
 have round_eq:∀b as h,iq run ext FT (.fn (.yield b) [] []) as h=mc run b as h:=fun _ _ _=>rfl
 refine⟨fun g as h r hq=>?_,fun g as h r hq ρ w g' as' m hg hv=>?_⟩
 . cases g <;> try (cases hq;done)
   rename_i f fi ca;cases f <;> try (cases hq;done)
   . simp only[iq]at hq;split at hq
     . rename_i q hq1;cases hq;exact(hext _ _ _ _ hq1).1
     grind[GH]
   . cases fi <;> cases ca <;> try (cases hq;done)
     grind[Qb]
 . cases g <;> try (cases hq;done)
   rename_i f fi ca;cases f <;> try (cases hq;done)
   . rename_i f;cases hg with
     | @fn _ _ _ fi' ca' hf h1 h2 g1 g2=>
      have hall:VL ρ w (fi++as++ca) (fi'++as'++ca'):=(VL.append ⟨h1,g1⟩ hv).append ⟨h2,g2⟩;have happ:∀(nx:Next) (w1:World),(callFunc f (fi'++as'++ca').toArray).run P w = .ok nx w1->(mX (.func (.func f) fi'.toArray ca'.toArray) as'.toArray).run P w = .ok nx w1:=by
       intro nx w1 hc;simp only[mX,Deferred.ofValue,invoke,c8,d8,ci];rw[←hc];congr 2;simp
      simp only[iq]at hq;split at hq
      . rename_i q hq1;cases hq;obtain⟨nx,w1,h3,h4⟩:=(hext _ _ _ _ hq1).2 ρ w _ m hall<;>grind
      . obtain⟨h3,h4⟩:=ud hrun hFT hq m hall;exact⟨_,_,happ _ _ h3,h4⟩
   . cases fi <;> cases ca <;> try (cases hq;done)
     grind[Qd]
end Go.Ab
namespace Go.Ab
variable {P:Program} {gl:Nat->Option AV} {ρ:aM} {w:World} {h:ae} {s:St} {a:Act} {ext:FuncId->List AV->ae->Option HR} {FT:FuncId->Option cU}
theorem Qe (hext:cB P gl ext)(hFT:lZ P gl FT):∀n,(∀k,k<n->kK P gl (bw ext (fl P) FT k))->∀c s e s',bw ext (fl P) FT n c s=some (e,s')->fL s s':=by
 intro n;cases n with
 | zero=>intro _ c s e s' hq;cases hq
 | succ n=>
  intro ih c s e s' hq;have ihn:=ih n ac;have hcall:=(Ac ihn hext hFT).wr;cases c <;> simp only[bw]at hq
  case skip=>cases hq;exact .refl _
  case region ops=>
   split at hq
   . rename_i s1 hr;cases hq;exact(fL.same (s:=s) (x:={ s.s with lo:=[] }) rfl).trans (zW hcall _ _ _ hr)
   grind
  case draw ops=>
   split at hq
   . rename_i s1 hr;cases hq;exact(fL.same (s:=s) (x:={ s.s with lo:=[] }) rfl).trans (PW hcall hr)
   grind
  case seq x y=>
   split at hq
   . rename_i s1 hr;exact(ihn.wr _ _ _ _ hr).trans (ihn.wr _ _ _ _ hq)
   . exact ihn.wr _ _ _ _ hq
  case cond x p q=>
   split at hq
   . exact ihn.wr _ _ _ _ hq
   grind
  case block id x=>
   split at hq
   . rename_i s1 hr;split at hq <;> (cases hq;exact ihn.wr _ _ _ _ hr)
   . exact ihn.wr _ _ _ _ hq
  case loop x=>
   split at hq
   . rename_i s1 hr;exact(ihn.wr _ _ _ _ hr).trans (ihn.wr _ _ _ _ hq)
   . exact ihn.wr _ _ _ _ hq
  case exit id=>cases hq;exact .refl _
  case ret=>cases hq;exact .refl _
  case rangeFunc inner f ps as bd=>
   split at hq
   . cases hq
   . split at hq
     . split at hq
       . rename_i r hr;split at hq
         . split at hq
           . cases hq
           . cases hq;have h1:=GH ihn hr;refine⟨?_,fun b hb=>by grind,fun b hb hn=>?_⟩
             . have:=h1.1;simp only[c6,d9,fF]at this;simp[ae.put];omega
             . simp only[gT,cd,c7,not_or]at hn;show (r.h.set _ _)[b]? = _;rw[lI hn.1,h1.2 b aw hn.2.1,cK hb]
         grind
       grind
     grind
  grind
theorem Qf {p:Nat->Prop}(h:∃n,p n):∃n,p n/\∀m,p m->n<=m:=by
 obtain⟨n,hn⟩:=h;induction n using jN<;>grind
open Classical in
theorem Qg {n:Nat}{aP:List Nat}{N:Nat}{rd:Bool}{code:Code}{c:ao}(hcode:fI ⟨P,gl,aP,N⟩ rd code=some c)(ih:∀k,k<n->kK P gl (bw ext (fl P) FT k)){s s':au}{e:Ex}(hq:bw ext (fl P) FT n (.loop c) s=some (e,s'))
 {ro:Option Nat} (r:Rel ⟨P,gl,aP,N⟩ ρ s.s a w) (d:DF ρ s.s.cg a.defers) (hrd:rd=false->ro=none) {Q:Exit->Act->World->Prop}
 (hQ:∀ρ' a' w',Rel ⟨P,gl,aP,N⟩ ρ' s'.s a' w'->DF ρ' s'.s.cg a'.defers->Ext s.s.hp s'.s.hp ρ ρ' w w'->Q (ub e) a' w'):(Code.loop code).wpIn (FR ro) 0 P Q a w:=by
 let At:Nat->Act->World->Prop:=fun m a1 w1=>m<=n/\∃(s1:au) (ρ1:aM),bw ext (fl P) FT m (.loop c) s1=some (e,s')/\Rel ⟨P,gl,aP,N⟩ ρ1 s1.s a1 w1/\DF ρ1 s1.s.cg a1.defers/\Ext s.s.hp s1.s.hp ρ ρ1 w w1
 let I:Act->World->Prop:=fun a1 w1=>∃m,At m a1 w1
 let μ:Act->World->Nat:=fun a1 w1=>if h:∃m,At m a1 w1 then m7 (Qf h) else 0
 have hμ:∀a1 w1 m,At m a1 w1->μ a1 w1<=m:=by
  intro a1 w1 m hm;have hex:∃m,At m a1 w1:=⟨m,hm⟩;simp only[μ,dif_pos hex];exact aw
 refine wpIn_loop I μ ⟨n,b8 _,s,ρ,hq,r,d,Ext.refl _ _ _⟩ ?_;intro a1 w1 hI;have hμe:At (μ a1 w1) a1 w1:=by
  have hI':∃m,At m a1 w1:=hI;simp only[μ,dif_pos hI'];exact aw
 obtain⟨hle,s1,ρ1,hq1,r1,d1,x1⟩:=hμe;generalize hm:μ a1 w1=m at *
 cases m with
 | zero=>cases hq1
 | succ m=>
  have ihm:=ih m ac;simp only[bw]at hq1;cases hr:bw ext (fl P) FT m c s1 with
  | none=>grind
  | some p=>
   obtain⟨e2,s2⟩:=p;rw[hr]at hq1;refine ihm.ok c s1 e2 s2 hr aP N rd code hcode ρ1 a1 w1 ro r1 d1 hrd _ ?_;intro ρ2 a2 w2 r2 d2 x2;cases e2 with
   | normal=>
    simp only at hq1;have hat:At m a2 w2:=⟨ac,s2,ρ2,hq1,r2,d2,x1.trans x2⟩;exact⟨⟨m,hat⟩,by have:=hμ a2 w2 m hat;omega⟩
   | exit i=>cases hq1;exact hQ ρ2 a2 w2 r2 d2 (x1.trans x2)
   | ret=>cases hq1;exact hQ ρ2 a2 w2 r2 d2 (x1.trans x2)
end Go.Ab
namespace Go.Ab
variable {P:Program} {gl:Nat->Option AV} {ρ:aM} {w:World} {h:ae} {s:St} {a:Act} {ext:FuncId->List AV->ae->Option HR} {FT:FuncId->Option cU}
theorem Qh {C:Cx}{ops:List Oper}{draw:Bool}{c:ao}(h:tG C ops draw=some c):∃il,jE C ops ops=some il /\
 ((draw=false/\c = .region il)\/(draw=true/\∃bits,pa ops bits=true/\pb il bits=true/\c = .draw (il.zipIdx.map fun (o,i)=>(o,jm (bits.getD i 0) i)))):=by
 unfold tG at h;grind
theorem Qi {fn:FuncId}{tmps:Array Value}{ps:Array Tmp}{as bd:Code}:(Instr.enterLoop fn tmps ps as bd none).run P w =
 .ok (w.heap.size+1,[{ target:=.collected w.heap.size,args:=#[] }])
   { w with heap:=(w.heap.push (.deferred (some []))).push (.loop { state:=.ready,pending:=none,fn,tmps,params:=ps,assign:=as,body:=bd,defers:=w.heap.size }) }:=by
 simp[Instr.enterLoop];rfl
theorem Qj {n:Nat}(ihn:kK P gl (bw ext (fl P) FT n))(hFT:lZ P gl FT){aP:List Nat}{N:Nat}{g:Operand}{ps:Array Tmp}{as bd:Code}{fi:aO}{dps:List fj}{ai bi:ao}
 (hg:gB ⟨P,gl,aP,N⟩ g=some fi) (hps:lG ⟨P,gl,aP,N⟩ ps.toList=some dps) (has:fI ⟨P,gl,aP,N⟩ true as=some ai) (hbd:fI ⟨P,gl,aP,N⟩ true bd=some bi)
 {s s':au} {e:Ex} (hq:bw ext (fl P) FT (n+1) (.rangeFunc false fi dps ai bi) s=some (e,s')) (r:Rel ⟨P,gl,aP,N⟩ ρ s.s a w) (d:DF ρ s.s.cg a.defers) {Q:Exit->Act->World->Prop}
 (hQ:∀ρ' a' w',Rel ⟨P,gl,aP,N⟩ ρ' s'.s a' w'->DF ρ' s'.s.cg a'.defers->Ext s.s.hp s'.s.hp ρ ρ' w w'->Q (ub e) a' w'):(Code.rangeFunc g ps as bd).wpIn (FR none) 0 P Q a w:=by
 simp only[bw,bj,if_false]at hq;split at hq <;> try (cases hq;done)
 rename_i gf l1 l2 hgv;split at hq <;> try (cases hq;done)
 rename_i q hcall;split at hq <;> try (cases hq;done)
 rename_i st pend pe' ps' a' b' hb;split at hq <;> try (cases hq;done)
 rename_i hst;cases hq;have hgV:=r.ah hg hgv;generalize hge:a.eval g=gv at hgV;cases hgV with
 | @fn _ _ _ fi' ca' hf h1 h2 g1 g2=>
  refine wpIn_rangeFunc fun fnId _=>?_
  have x1:=Ext.alloc r.mem (some .gA) (.deferred (some [])) (.live w.heap.size 0) aq;have m1:=Mem.alloc r.mem (some .gA) (.deferred (some [])) (.live w.heap.size 0) aq (by
   intro o' ho;cases ho;exact⟨w.heap.size,aM.fZ _ _ _,aq⟩)
  generalize hρ1:ρ.dT s.s.hp.length (.live w.heap.size 0)=ρ1 at *
  generalize hw1:({ w with heap:=w.heap.push (.deferred (some [])) }:World)=v1 at *
  have hv1s:v1.heap.size=w.heap.size+1:=by rw[←hw1];simp
  let rec0:Loop:={ state:=.ready,pending:=none,fn:=fnId,tmps:=a.tmps,params:=ps,assign:=as,body:=bd,defers:=w.heap.size }
  have hl1:(s.s.hp++[some bR.gA]).length=s.s.hp.length+1:=by simp
  have x2:=Ext.alloc m1 (some (.loop .ready none s.s.pe dps ai bi)) (.loop rec0) (.live v1.heap.size 0) aq;have er1:ER ⟨P,gl,aP,N⟩ ρ1 v1 s.s.pe [] a.tmps:=⟨r.er.size,r.er.nodup,r.er.lt,r.er.ke,fun i v t hv ht=>(r.er.pe i v t hv ht).mono x1,aq⟩;have m2:=Mem.alloc m1 (some (.loop .ready none s.s.pe dps ai bi)) (.loop rec0) (.live v1.heap.size 0) aq (by
   intro o' ho;cases ho;exact⟨v1.heap.size,rec0,aP,N,aM.fZ _ _ _,aq,rfl,trivial,er1.mono x2,hps,has,hbd⟩)
  rw[hl1]at x2 m2;have happ:s.s.hp++[some bR.gA]++[some (.loop .ready none s.s.pe dps ai bi)]=s.s.hp++[some bR.gA,some (.loop .ready none s.s.pe dps ai bi)]:=by simp
  rw[happ]at x2 m2;generalize hρ2:ρ1.dT (s.s.hp.length+1) (.live v1.heap.size 0)=ρ2 at *
  generalize hw2:({ v1 with heap:=v1.heap.push (.loop rec0) }:World)=v2 at *
  have x12:=x1.trans x2;have hyield:V ρ2 v2 (.fn (.yield (s.s.hp.length+1)) [] []) (.func (.yield (w.heap.size+1)) #[] #[]):=by
   rw[←hv1s];exact .yield (d:=0) (by grind[aM.fZ])
  have hall:VL ρ2 v2 (l1++[.fn (.yield (s.s.hp.length+1)) [] []]++l2) (fi'++[.func (.yield (w.heap.size+1)) #[] #[]]++ca'):=by
   have e1:VL ρ2 v2 l1 fi':=VL.mono x12 ⟨h1,g1⟩;have e2:VL ρ2 v2 l2 ca':=VL.mono x12 ⟨h2,g2⟩;exact(e1.append (.cons hyield .nil)).append e2
  obtain⟨hcf,hcalls⟩:=ud ihn hFT hcall m2 hall;refine⟨w.heap.size+1,[{ target:=.collected w.heap.size,args:=#[] }],v2,{ target:=.fn (.func gf) ca'.toArray,args:=fi'.toArray ++ #[.func (.yield (w.heap.size+1)) #[] #[]] },v2,gf,
   (fi'++[Value.func (.yield (w.heap.size+1)) #[] #[]]++ca').toArray,v2,?_,?_,fun _ _=>trivial,?_,fun hd=>(by cases hd),?_⟩
  . rw[show (FR none).round=none from rfl,Qi,←hw2,←hw1]
  . have e:resolve a.eval (rangeCall g (w.heap.size+1)) 0=Deferred.ofValue (a.eval g) #[.func (.yield (w.heap.size+1)) #[] #[]]:=by
     simp[resolve,Act.eval]
    rw[e,hge];rfl
  . simp only[invoke]<;>grind
  . refine CallsIn.mono (F:=Fence.wide) (n:=0) hcalls ?_;intro en w3 hen;cases en with
    | panicked _=>grind
    | outgrown=>grind
    | returned v=>
     obtain⟨ρ3,hv3,m3,x3⟩:=hen;obtain⟨h0',c,rr,pers',N',k1,k2,k3,k4,k5,k6,k7,k8⟩:=uf m3 hb;have hc:c=w.heap.size+1:=by
      have hl:ρ2 (s.s.hp.length+1) = .live (w.heap.size+1) 0:=by rw[←hρ2,←hv1s];exact aq
      rcases x3.live _ _ _ hl with hh|hh
      . grind
      . grind
     subst hc;obtain⟨m4,x4⟩:=Aa (st':=.exhausted) (pend':=pend) m3 h0' k1 k2 { rr with state:=.exhausted } rfl k4 k5 k6 k7 k8;have xx:=(x12.trans x3).trans x4;refine⟨rr.pending,w3.dE (w.heap.size+1) (.loop { rr with state:=.exhausted }),?_,?_⟩
     . have hnb:(rr.state == LoopState.busy)=false:=by rw[k3];simpa using hst
       simp only[Instr.endLoop,c8,ue k2,ci,hnb,bj,if_false,d8,mW k2 aq]
     . have hrel:Rel ⟨P,gl,aP,N⟩ ρ3 { s.s with hp:=q.h.put (s.s.hp.length+1) (some (.loop .exhausted pend pe' ps' a' b')),cg:=s.s.hp.length::s.s.cg } { a with defers:=[{ target:=.collected w.heap.size,args:=#[] }]++a.defers } (w3.dE (w.heap.size+1) (.loop { rr with state:=.exhausted })):=
        ⟨(r.er.mono xx:ER ⟨P,gl,aP,N⟩ ρ3 _ s.s.pe s.s.lo a.tmps),m4⟩
       have hdf:DF ρ3 (s.s.hp.length::s.s.cg) ([{ target:=.collected w.heap.size,args:=#[] }]++a.defers):=by
        have hl:ρ1 s.s.hp.length = .live w.heap.size 0:=by rw[←hρ1];exact aq
        have d1:DF ρ1 (s.s.hp.length::s.s.cg) ([{ target:=.collected w.heap.size,args:=#[] }]++a.defers):=by
         have d0:=d.mono x1;refine⟨by simp[d0.1],fun i b dd hi hi'=>?_⟩;cases i with
         | zero=>grind
         | succ i=>exact d0.2 i b dd aw aw
        exact((d1.mono x2).mono x3).mono x4
       have hfin:=hQ ρ3 _ _ hrel hdf xx;have key:∀(W:World) (a':Act) (jp:Option Code),mT pend jp->Q (ub (pend.getD .normal)) a' W->(match jp with|none=>Q .normal a' W|some c=>c.wpIn (FR none) 0 P Q a' W):=by
        intro W a' jp k4 hfin;cases pend with
        | none=>
         cases jp with
         | none=>exact hfin
         | some _=>exact k4.elim
        | some e1=>
         cases e1 with
         | normal=>cases jp <;> exact k4.elim
         | exit i=>
          cases jp with
          | none=>exact k4.elim
          | some cc=>
           cases cc <;> simp only[mT]at k4;subst k4;exact wpIn_exit hfin
         | ret=>
          cases jp with
          | none=>exact k4.elim
          | some cc=>
           cases cc <;> simp only[mT]at k4;exact wpIn_ret hfin
       grind
theorem Ad (hmix:P.follows .mixedOrders=true)(hext:cB P gl ext)(hFT:lZ P gl FT):∀n,kK P gl (bw ext (fl P) FT n):=by
 intro n;induction n using jN with
 | _ n ih=>
  refine⟨Qe hext hFT n ih,?_⟩;cases n with
  | zero=>intro c s e s' hq;cases hq
  | succ n=>
   have ihn:=ih n ac;have hcall:=Ac ihn hext hFT;intro c s e s' hq aP N rd code hcode ρ a w ro r d hrd Q hQ;cases code <;> simp only[fI]at hcode
   case skip=>
    cases hcode;simp only[bw,b5.injEq,ja.injEq]at hq;obtain⟨rfl,rfl⟩:=hq;exact wpIn_skip (hQ ρ a w r d (Ext.refl _ _ _))
   case label l=>
    cases hcode;simp only[bw,b5.injEq,ja.injEq]at hq;obtain⟨rfl,rfl⟩:=hq;exact wpIn_label (hQ ρ a w r d (Ext.refl _ _ _))
   case exit id=>
    cases hcode;simp only[bw,b5.injEq,ja.injEq]at hq;obtain⟨rfl,rfl⟩:=hq;exact wpIn_exit (hQ ρ a w r d (Ext.refl _ _ _))
   case ret=>
    cases hcode;simp only[bw,b5.injEq,ja.injEq]at hq;obtain⟨rfl,rfl⟩:=hq;exact wpIn_ret (hQ ρ a w r d (Ext.refl _ _ _))
   case region id ops draw=>
    simp only[b5.injEq]at hcode;cases hc:tG ⟨P,gl,aP,N⟩ ops.toList draw with
    | none=>rw[hc]at hcode;simp at hcode;subst hcode;simp[bw]at hq
    | some c'=>
     rw[hc]at hcode;simp at hcode;subst hcode;obtain⟨il,hil,hor⟩:=Qh hc;rcases hor with ⟨rfl,rfl⟩|⟨rfl,bits,hb1,hb2,rfl⟩
     . simp only[bw]at hq;split at hq
       . rename_i s1 hr;cases hq;have hdfs:=zX _ _ _ hr;refine PF hcall hil r hr ?_;intro ρ' a' w' r' x' hd';refine hQ ρ' a' w' r' ?_ x';rw[hdfs,hd'];exact d.mono x'
       grind
     . simp only[bw]at hq;split at hq
       . rename_i s1 hr;cases hq;refine PT hcall hmix hcall.wr hil hb1 hb2 r hr ?_;intro ρ' a' w' r' x' hd' hdfs;refine hQ ρ' a' w' r' ?_ x';rw[hdfs,hd'];exact d.mono x'
       grind
   case seq x y=>
    split at hcode
    . rename_i cx cy hx hy;cases hcode;simp only[bw]at hq;refine wpIn_seq ?_;cases hr:bw ext (fl P) FT n cx s with
      | none=>grind
      | some p=>
       obtain⟨e1,s1⟩:=p;rw[hr]at hq;refine ihn.ok cx s e1 s1 hr aP N rd x hx ρ a w ro r d hrd _ ?_;intro ρ1 a1 w1 r1 d1 x1;cases e1 with
       | normal=>exact ihn.ok cy s1 e s' hq aP N rd y hy ρ1 a1 w1 ro r1 d1 hrd Q fun ρ2 a2 w2 r2 d2 x2=>hQ ρ2 a2 w2 r2 d2 (x1.trans x2)
       | exit i=>cases hq;exact hQ ρ1 a1 w1 r1 d1 x1
       | ret=>cases hq;exact hQ ρ1 a1 w1 r1 d1 x1
    grind
   case cond t x y=>
    split at hcode
    . rename_i ct cx cy ht hx hy;cases hcode;simp only[bw]at hq;split at hq
      . rename_i b hb;have e1:=(r.ah ht hb).lJ;refine wpIn_cond e1 ?_;cases b with
        | true=>exact ihn.ok cx s e s' hq aP N rd x hx ρ a w ro r d hrd Q hQ
        | false=>exact ihn.ok cy s e s' hq aP N rd y hy ρ a w ro r d hrd Q hQ
      grind
    grind
   case block id x=>
    simp only[be]at hcode;obtain⟨cx,hx,rfl⟩:=hcode;simp only[bw]at hq;refine wpIn_block ?_;cases hr:bw ext (fl P) FT n cx s with
    | none=>grind
    | some p=>
     obtain⟨e1,s1⟩:=p;rw[hr]at hq;refine ihn.ok cx s e1 s1 hr aP N rd x hx ρ a w ro r d hrd _ ?_;intro ρ1 a1 w1 r1 d1 x1;cases e1 with
     | normal=>cases hq;exact hQ ρ1 a1 w1 r1 d1 x1
     | exit i=>
      simp only at hq;show (if i=id then Q .normal a1 w1 else Q (.exit i) a1 w1);split at hq
      . rename_i hi;cases hq;rw[if_pos hi];exact hQ ρ1 a1 w1 r1 d1 x1
      . rename_i hi;cases hq;rw[if_neg hi];exact hQ ρ1 a1 w1 r1 d1 x1
     | ret=>cases hq;exact hQ ρ1 a1 w1 r1 d1 x1
   case loop x=>
    grind[be,Qg]
   case scope x=>
    simp only[be]at hcode;obtain⟨cx,hx,rfl⟩:=hcode;refine PV ?_;simp only[bw]at hq;cases hr:bw ext (fl P) FT n cx s with
    | none=>grind
    | some p=>
     obtain⟨e1,s1⟩:=p;rw[hr]at hq;refine ihn.ok cx s e1 s1 hr aP N rd x hx ρ a w ro r d hrd _ ?_;intro ρ1 a1 w1 r1 d1 x1;cases e1 with
     | normal=>
      simp only at hq;cases n with
      | zero=>cases hq
      | succ n=>
       simp only[bw,b5.injEq,ja.injEq]at hq;obtain⟨rfl,rfl⟩:=hq;exact hQ ρ1 a1 w1 r1 d1 x1
     | exit i=>cases hq;exact hQ ρ1 a1 w1 r1 d1 x1
     | ret=>cases hq;exact hQ ρ1 a1 w1 r1 d1 x1
   case rangeFunc g ps as bd=>
    split at hcode
    . rename_i fi dps ai bi h1 h2 h3 h4;cases hcode;cases rd with
      | true=>simp[bw]at hq
      | false=>
       rw[hrd rfl];grind[Qj]
    grind
   all_goals
    cases hcode;simp[bw]at hq
end Go.Ab
namespace Go.Ab
variable {P:Program} {gl:Nat->Option AV} {ρ:aM} {w:World} {h:ae}
def kh:AV->AV->Bool
 | .int k a,.int k' b=>decide (k=k') && a == b
 | .str a,.str b=>a == b
 | .bool a,.bool b=>a == b
 | .eK,.eK | .ab,.ab | .eO,.eO | .fH,.fH | .dN,.dN=>true
 | .fn (.func f) [] [],.fn (.func g) [] []=>f == g
 | _,_=>false
def uh:List AV->List AV->Bool
 | [],[]=>true
 | a::l,b::m=>kh a b && uh l m
 | _,_=>false
theorem Qk {a b:AV}(h:kh a b=true):a=b:=by
 unfold kh at h;grind
theorem GK:∀{a b:List AV},uh a b=true->a=b
 | [],[],_=>rfl
 | _::_,_::_,h=>by
  simp only[uh,aZ]at h;rw[Qk h.1,GK h.2]
 | [],_::_,h=>by cases h
 | _::_,[],h=>by cases h
theorem jn.mono {nx:Next}{w1:World}{R R':Value->World->Prop}(h:jn P nx w1 R)(hr:∀v w',R v w'->R' v w'):jn P nx w1 R':=by
 cases nx <;> simp only[jn]at h ⊢
 case value v=>grind
 case enter f args=>
  grind[CallsIn.mono]
 grind[RoundIn.mono]
theorem Mem.bare (hgl:∀g v,gl g=some v->v.top=0)(m:Mem P gl ρ h w):Mem P gl (ew 0 ρ) [] w:=by
 refine⟨aq,fun b _=>rfl,?_,?_,?_,?_,fun g v hg=>?_⟩
 . intro b b' c d d' h1;simp[ew]at h1
 . intro b c d h1;simp[ew]at h1
 . rintro c (hc|⟨b,d,_,hb⟩)
   . exact m.xb c hc
   . exact m.bound b c d hb
 . intro b c d h1;simp[ew]at h1
 . exact(m.gl g v hg).gC (n:=0) aq (fun c hc=>hc.ew 0) aw
theorem VL.bare {l:List AV}{m:List Value}(hl:bz l=0)(h:VL ρ w l m):VL (ew 0 ρ) w l m:=
 ⟨h.1,fun i x y hx hy=>(h.2 i x y hx hy).gC (n:=0) aq (fun c hc=>hc.ew 0) (fx ac i x hx)⟩
end Go.Ab
namespace Go.Ab
variable {P:Program} {gl:Nat->Option AV} {ρ:aM} {w:World} {h:ae}
inductive XK where
 | po|pq|index|count|same
 deriving DecidableEq
def Ql:Array Value->Sem Value:=fun args=>do
 let (x, y, b) ←Extern.MathBitsCarry.three "Sub64" args
 pure (Extern.MathBitsCarry.pair ((x+Extern.MathBitsCarry.m64-y-b)%Extern.MathBitsCarry.m64) (if x<y+b then 1 else 0))
def XK.entry:XK->Array Value->Sem Value
 | .po=>add64Entry
 | .pq=>Ql
 | .index=>Extern.BytealgIndexByte.indexByte
 | .count=>Extern.BytealgCount.count
 | .same=>Extern.AbiNoEscape.same
def XK.run:XK->List AV->Option AV
 | .po,[.int .u64 x,.int .u64 y,.int .u64 c]=>if 0<=x/\0<=y/\0<=c/\c<=1 then some (.ay [.int .u64 ((x+y+c)%18446744073709551616),.int .u64 ((x+y+c)/18446744073709551616)]) else none
 | .pq,[.int .u64 x,.int .u64 y,.int .u64 c]=>if 0<=x/\0<=y/\0<=c/\c<=1 then some (.ay [.int .u64 ((x.toNat+18446744073709551616-y.toNat-c.toNat)%18446744073709551616:Nat),.int .u64 (if x.toNat<y.toNat+c.toNat then 1 else 0:Nat)]) else none
 | .index,[.str s,.int .u8 c]=>some (.int .i64 (firstIdx ⟨s.toArray⟩ c.toNat.toUInt8))
 | .count,[.str s,.int .u8 c]=>some (.int .i64 ((ByteArray.mk s.toArray).foldl (fun n x=>if x == c.toNat.toUInt8 then n+1 else n) ((0:Nat):Int)))
 | .same,[x]=>some x
 | _,_=>none
structure nf (P:Program)(f:Nat)(k:XK):Prop where
 fn : ∃fn, P.funcs[f]? = some fn /\ (fn.name == "runtime.NumGoroutine") = false /\ fn.body.isNone = true /\ Extern.findNext fn = none /\ Extern.find fn = some k.entry
def nh:List (Nat×XK)->FuncId->List AV->ae->Option HR
 | [],_,_,_=>none
 | (g,k)::L,f,all,h=>if dh g f then (match k.run all with|some v=>some ⟨v,h,[]⟩|none=>none) else nh L f all h
theorem Qm {x y c:Int}(hc0:0<=c)(hc:c<=1)(n:String)(k:Nat×Nat×Nat->Sem Value) :
 ((Extern.MathBitsCarry.three n #[.int .u64 x,.int .u64 y,.int .u64 c]) >>= k).run P w=(k (x.toNat,y.toNat,c.toNat)).run P w:=by
 obtain⟨c',rfl⟩:=Int.eq_ofNat_of_zero_le hc0;have:c'=0\/c'=1:=by omega
 rcases this with rfl|rfl <;> rfl
theorem XK.rm (k:XK){all:List AV}{as':List Value}(hv:VL ρ w all as'){v:AV}(hq:k.run all=some v):∃v',(k.entry as'.toArray).run P w = .ok v' w/\V ρ w v v':=by
 unfold XK.run at hq;split at hq <;> try (cases hq;done)
 . rename_i x y c;split at hq <;> try (cases hq;done)
   rename_i hc;cases hq;obtain⟨a1,m1,rfl,e1,hv⟩:=hv.cons_inv;obtain⟨a2,m2,rfl,e2,hv⟩:=hv.cons_inv;obtain⟨a3,m3,rfl,e3,hv⟩:=hv.cons_inv;obtain rfl:=hv.jF;cases e1;cases e2;cases e3;exact⟨_,run_add64 x y c hc.1 hc.2.1 hc.2.2.1 hc.2.2.2 w,V.iG (.cons (.int _ _) (.cons (.int _ _) .nil))⟩
 . rename_i x y c;split at hq <;> try (cases hq;done)
   rename_i hc;cases hq;obtain⟨a1,m1,rfl,e1,hv⟩:=hv.cons_inv;obtain⟨a2,m2,rfl,e2,hv⟩:=hv.cons_inv;obtain⟨a3,m3,rfl,e3,hv⟩:=hv.cons_inv;obtain rfl:=hv.jF;cases e1;cases e2;cases e3;exact⟨_, Qm hc.2.2.1 hc.2.2.2 "Sub64" _, V.iG (.cons (.int _ _) (.cons (.int _ _) .nil))⟩
 . rename_i s c;cases hq;obtain⟨a1,m1,rfl,e1,hv⟩:=hv.cons_inv;obtain⟨a2,m2,rfl,e2,hv⟩:=hv.cons_inv;obtain rfl:=hv.jF;cases e1;cases e2;exact⟨_,run_indexByte_string ⟨s.toArray⟩ c w,.int _ _⟩
 . rename_i s c;cases hq;obtain⟨a1,m1,rfl,e1,hv⟩:=hv.cons_inv;obtain⟨a2,m2,rfl,e2,hv⟩:=hv.cons_inv;obtain rfl:=hv.jF;cases e1;cases e2;exact⟨_,rfl,.int _ _⟩
 . rename_i x;cases hq;obtain⟨a1,m1,rfl,e1,hv⟩:=hv.cons_inv;obtain rfl:=hv.jF;exact⟨a1,rfl,e1⟩
theorem Ae:∀{L:List (Nat×XK)},(∀p∈L,nf P p.1 p.2)->cB P gl (nh L)
 | [],_=>fun f all h r hq=>by cases hq
 | (g,k)::L,hL=>fun f all h r hq=>by
  simp only[nh]at hq;split at hq
  . rename_i hg;have hg':=gc hg;subst hg';split at hq
    . rename_i v hv;cases hq;refine⟨pk _,fun ρ w as' m hl=>?_⟩;obtain⟨fn,h1,h2,h3,h4,h5⟩:=(hL (g,k) aq).fn;obtain⟨v',h6,h7⟩:=XK.rm (P:=P) k hl hv;refine⟨.value v',w,?_,iy m h7⟩;rw[run_callFunc_extern h1 h2 h3 h4 h5,h6];rfl
    grind
  . exact Ae aw f all h r hq
end Go.Ab
namespace Go.Ab
variable {P:Program} {gl:Nat->Option AV} {ρ:aM} {w:World} {h:ae}
def ui:Option Nat->Option Nat->Bool
 | none,none=>true
 | some a,some b=>dh a b
 | _,_=>false
theorem GL {a b:Option Nat}(h:ui a b=true):a=b:=by
 unfold ui at h;split at h<;>simp_all
mutual
def nj:AV->AV->Bool
 | .dj,.dj=>true
 | .int k a,.int k' b=>decide (k=k') && a == b
 | .str a,.str b=>a == b
 | .bool a,.bool b=>a == b
 | .eK,.eK | .ab,.ab | .eO,.eO | .fH,.fH | .dN,.dN=>true
 | .ptr b o,.ptr b' o'=>dh b b' && dh o o'
 | .vp l,.vp m=>jI l m
 | .sl b o n e c,.sl b' o' n' e' c'=>dh b b' && dh o o' && dh n n' && dh e e' && ui c c'
 | .vs l n c,.vs l' n' c'=>jI l l' && dh n n' && ui c c'
 | .map b,.map b'=>dh b b'
 | .fn (.func f) x y,.fn (.func g) x' y'=>dh f g && jI x x' && jI y y'
 | .iface t v,.iface t' v'=>dh t t' && nj v v'
 | .agg l,.agg m=>jI l m
 | .ay l,.ay m=>jI l m
 | _,_=>false
def jI:List AV->List AV->Bool
 | [],[]=>true
 | a::l,b::m=>nj a b && jI l m
 | _,_=>false
end
mutual
theorem rn:∀(a b:AV),nj a b=true->a=b:=by
 intro a b h;unfold nj at h;split at h <;> first|rfl|(simp at h;done)|skip
 . grind
 . grind
 . grind
 . simp_all
 . rw[kL _ _ h]
 . simp only[aZ,jj]at h;grind[GL]
 . simp only[aZ,jj]at h;rw[kL _ _ h.1.1,h.1.2,GL h.2]
 . simp_all
 . simp only[aZ,jj]at h;rw[h.1.1,kL _ _ h.1.2,kL _ _ h.2]
 . simp only[aZ,jj]at h;rw[h.1,rn _ _ h.2]
 . rw[kL _ _ h]
 . rw[kL _ _ h]
theorem kL:∀(a b:List AV),jI a b=true->a=b:=by
 intro a b h;cases a <;> cases b <;> simp only[jI,aZ]at h <;> first|rfl|(simp at h;done)|skip
 rw[rn _ _ h.1,kL _ _ h.2]
end
def uj:List (AV×AV)->List (AV×AV)->Bool
 | [],[]=>true
 | (a,b)::l,(c,d)::m=>nj a c && nj b d && uj l m
 | _,_=>false
theorem GM:∀{a b:List (AV×AV)},uj a b=true->a=b
 | [],[],_=>rfl
 | (a,b)::l,(c,d)::m,h=>by
  simp only[uj,aZ]at h;rw[rn _ _ h.1.1,rn _ _ h.1.2,GM h.2]
 | [],_::_,h=>by cases h
 | _::_,[],h=>by cases h
def uk:bR->bR->Bool
 | .cells l e,.cells m f=>dh e f && jI l m
 | .map l,.map m=>uj l m
 | .iter s p,.iter t q=>s == t && dh p q
 | .gA,.gA=>true
 | _,_=>false
theorem GN {a b:bR}(h:uk a b=true):a=b:=by
 unfold uk at h;split at h
 . simp only[aZ,jj]at h;grind[kL]
 . rw[GM h]
 . simp_all
 . rfl
 . cases h
def pr:ae->ae->Bool
 | [],[]=>true
 | none::l,none::m=>pr l m
 | some a::l,some b::m=>uk a b && pr l m
 | _,_=>false
theorem Af:∀{a b:ae},pr a b=true->a=b
 | [],[],_=>rfl
 | none::l,none::m,h=>by simp only[pr]at h;rw[Af h]
 | some a::l,some b::m,h=>by
  simp only[pr,aZ]at h;rw[GN h.1,Af h.2]
 | [],_::_,h=>by cases h
 | _::_,[],h=>by rename_i o _;cases o <;> cases h
 | none::_,some _::_,h=>by cases h
 | some _::_,none::_,h=>by cases h
def me:ae->ae->Bool
 | [],[]=>true
 | none::l,_::m=>me l m
 | some a::l,some b::m=>uk a b && me l m
 | _,_=>false
theorem Ag:∀{a b:ae},me a b=true->a.length=b.length/\∀(i:Nat) x,a[i]? = some (some x)->b[i]? = some (some x)
 | [],[],_=>⟨rfl,aq⟩
 | none::l,o::m,h=>by
  simp only[me]at h;obtain⟨h1,h2⟩:=Ag h;refine⟨by simp[h1],fun i x hx=>?_⟩;cases i with
  | zero=>simp at hx
  | succ i=>exact h2 i x (by simpa using hx)
 | some a::l,some b::m,h=>by
  simp only[me,aZ]at h;obtain⟨h1,h2⟩:=Ag h.2;refine⟨by simp[h1],fun i x hx=>?_⟩;cases i with
  | zero=>simp at hx ⊢;rw[←GN h.1,hx]
  | succ i=>exact h2 i x (by simpa using hx)
 | [],_::_,h=>by cases h
 | o::_,[],h=>by cases o <;> cases h
 | some _::_,none::_,h=>by cases h
structure bA where
 f:Nat
 as:List AV
 h:ae
 r:HR
def um (r:HR):Option HR->Bool
 | some q=>nj q.v r.v && pr q.h r.h && q.wr == r.wr
 | none=>false
theorem Qn {r:HR}{q:Option HR}(h:um r q=true):q=some r:=by
 unfold um at h;split at h
 . rename_i q;simp only[aZ,beq_iff_eq]at h;obtain⟨v,hh,wr⟩:=q;obtain⟨v',hh',wr'⟩:=r;grind[rn,Af]
 . cases h
def nk (f:Nat)(all:List AV)(h:ae):List bA->Option HR
 | []=>none
 | e::T=>if dh e.f f then (if jI e.as all then (if me e.h h then some ⟨e.r.v,fA e.r.wr h e.r.h 0,e.r.wr⟩ else nk f all h T) else nk f all h T) else nk f all h T
def uo (T:List bA)(ext:FuncId->List AV->ae->Option HR):FuncId->List AV->ae->Option HR:=fun f all h=>
 match nk f all h T with
 | some r=>some r
 | none=>ext f all h
def bl (P:Program)(gl:Nat->Option AV)(e:bA):Prop:=
 fD e.h e.r/\∀ρ w (as':List Value),Mem P gl ρ e.h w->VL ρ w e.as as'->∃nx w1,(callFunc e.f as'.toArray).run P w = .ok nx w1/\jn P nx w1 fun v w'=>fe P gl ρ e.h w e.r v w'
theorem GO {f:Nat}{all:List AV}{h:ae}:∀{T:List bA} {r:HR},nk f all h T=some r->∃e∈T,e.f=f/\e.as=all/\me e.h h=true/\r=⟨e.r.v,fA e.r.wr h e.r.h 0,e.r.wr⟩
 | [],r,h=>by cases h
 | e::T,r,hq=>by
  have rest:nk f all h T=some r->∃e'∈e::T,e'.f=f/\e'.as=all/\me e'.h h=true/\r=⟨e'.r.v,fA e'.r.wr h e'.r.h 0,e'.r.wr⟩:=fun hr=>by
   obtain⟨e',h1,h2⟩:=GO hr;exact⟨e',List.mem_cons_of_mem _ h1,h2⟩
  simp only[nk]at hq;split at hq
  . rename_i hf;split at hq
    . rename_i ha;split at hq
      . rename_i hs;cases hq;exact⟨e,List.mem_cons_self,gc hf,kL _ _ ha,hs,rfl⟩
      . exact rest hq
    . exact rest hq
  . exact rest hq
theorem Qo {h0:ae}{r:HR}(hs:h0.length=h.length/\∀(i:Nat) x,h0[i]? = some (some x)->h[i]? = some (some x))(hwr:fD h0 r)(m:Mem P gl ρ h w){v':Value}{w':World}(hd:fe P gl ρ h0 w r v' w') :
 fe P gl ρ h w ⟨r.v,fA r.wr h r.h 0,r.wr⟩ v' w':=by
 obtain⟨ρ',hv,m',x⟩:=hd;obtain⟨hl,hk⟩:=hs;have hle:h.length<=r.h.length:=by have:=hwr.1;omega
 have get:=fun b=>jH r.wr h r.h 0 b hle
 have hml:=rj r.wr h r.h 0 hle;have h0none:∀b,b<h.length->h[b]? = some none->h0[b]? = some none:=by
  intro b hb hn;cases hz:h0[b]? with
  | none=>grind
  | some z=>cases z<;>grind
 have E:Ext h (fA r.wr h r.h 0) ρ ρ' w w':=by
  refine⟨x.os,x.tape,x.output,x.size,ac,x.X,?_,?_,x.live,x.dead,x.nil,?_,?_,x.shape⟩
  . intro b hb;have hlt:=(aW.1 hb).1;rw[get b,if_pos hlt];split
    . exact x.dj b aw
    omega
  . intro b hb;exact x.same b (h0none b (aW.1 hb).1 hb)
  . intro c hc hu;refine x.cT c hc fun b d hb=>?_<;>grind
  . intro b c d hb hc;rcases x.back b c d hb hc with h1|⟨b0,d0,h1,h2⟩<;>grind
 refine⟨ρ',hv,⟨?_,?_,m'.inj,m'.bound,m'.xb,m'.xo,m'.gl⟩,E⟩
 . intro b o hb;rw[get b]at hb;split at hb
   . rename_i hlt;split at hb
     . exact m'.dm b o hb
     . rename_i hno;simp only[le,List.contains_eq_mem,decide_eq_true_eq]at hno;cases hz:h0[b]? with
       | none=>grind
       | some z=>
        cases z with
        | some o'=>
         have:=hk b o' hz;rw[hb]at this;cases this;exact m'.dm b o (by rw[hwr.2 b ac hno,hz])
        | none=>
         refine(m.dm b o hb).mono E (x.same b hz) fun c d hl'=>?_
         refine x.cT c (m.bound b c d hl') fun b' d' hb'=>?_
         have:=m.inj _ _ _ _ _ hl' hb'<;>grind
   . exact m'.dm b o hb
 . intro b hb;rw[hml]at hb;exact m'.fresh b hb
theorem GP {T:List bA}(hT:∀e∈T,bl P gl e){ext:FuncId->List AV->ae->Option HR}(hext:cB P gl ext):cB P gl (uo T ext):=by
 intro f all h r hq;unfold uo at hq;split at hq
 . rename_i q hv;cases hq;obtain⟨e,he,rfl,rfl,hs,rfl⟩:=GO hv;obtain⟨hwr,bT⟩:=hT e he;have hsp:=Ag hs;have hle:h.length<=e.r.h.length:=by have:=hwr.1;omega
   refine⟨⟨by grind[rj],fun b hb hn=>?_⟩,fun ρ w as' m hl=>?_⟩
   . show (fA e.r.wr h e.r.h 0)[b]? = _;rw[jH _ _ _ _ _ hle,if_pos hb];grind
   . have m0:Mem P gl ρ e.h w:=⟨fun b o hb=>m.dm b o (hsp.2 b o hb),fun b hb=>m.fresh b ac,m.inj,m.bound,m.xb,m.xo,m.gl⟩;obtain⟨nx,w1,h1,h2⟩:=bT ρ w as' m0 hl;exact⟨nx,w1,h1,h2.mono (by grind[Qo])⟩
 . exact hext f all h r hq
theorem Qp {call:ee}(hcall:lW P gl call){f:Nat}{as:List AV}{h:ae}{r:HR}(hq:um r (call (.fn (.func f) [] []) as h)=true):bl P gl ⟨f,as,h,r⟩:=by
 have hq':=Qn hq;refine⟨hcall.wr _ _ _ _ hq',fun ρ w as' m hl=>?_⟩;obtain⟨nx,w1,h1,h2⟩:=hcall.ok _ _ _ _ hq' ρ w (.func (.func f) #[] #[]) as' m (.fn (fi':=[]) (ca':=[]) aq rfl rfl aq aq) hl;exact Gn f _ _ ⟨nx,w1,h1,h2⟩
end Go.Ab
namespace Go.Ab
variable {ext:FuncId->List AV->ae->Option HR} {inv:eW} {FT:FuncId->Option cU}
def pt (c c':ee):Prop:=∀g as h r,c g as h=some r->c' g as h=some r
def uq (r r':ao->au->Option (Ex×au)):Prop:=∀c s x,r c s=some x->r' c s=some x
theorem ur {c c':ee}(hc:pt c c'){s:St}{io:bm}{q:HR}(h:bX c inv s io=some q):bX c' inv s io=some q:=by
 cases io <;> first|exact h|skip
 case call f as=>
  simp only[bX]at h ⊢;split at h
  . exact hc _ _ _ _ h
  . cases h
 case invoke f name as=>
  simp only[bX]at h ⊢;split at h
  . split at h
    . exact hc _ _ _ _ h
    . cases h
  . cases h
theorem mf {c c':ee}(hc:pt c c'):∀(l:List aY) (s s':au),fk c inv l s=some s'->fk c' inv l s=some s'
 | [],s,s',h=>h
 | o::l,s,s',h=>by
  simp only[fk]at h ⊢;split at h
  . split at h
    . rename_i q hq;simp only[ur hc hq];exact mf hc l _ s' h
    . cases h
  . exact mf hc l _ s' h
  . cases h
theorem ki {c c':ee}(hc:pt c c'):∀(l:List (aY×List Nat)) (s s':au) (ds:List ck),dS c inv l s ds=some s'->dS c' inv l s ds=some s'
 | [],s,s',ds,h=>h
 | (o,un)::l,s,s',ds,h=>by
  simp only[dS]at h ⊢;split at h
  . split at h
    . rename_i hh;cases ht:lE s.s o.op with
      | none=>
       simp only[ht]at h ⊢;simp only[if_true]at h ⊢;split at h
       . rename_i q hq;simp only[ur hc hq];split at h
         . rename_i hk;rw[if_pos hh];simp only[hk,if_true];exact ki hc l _ s' _ h
         . cases h
       . cases h
      | some T=>
       simp only[ht]at h ⊢;split at h
       . rename_i hd;rw[if_pos hd];split at h
         . rename_i q hq;simp only[ur hc hq];split at h
           . rename_i hk;rw[if_pos hh];simp only[hk,if_true];exact ki hc l _ s' _ h
           . cases h
         . cases h
       . cases h
    . rename_i hh;rw[if_neg hh];split at h
      . exact ki hc l _ s' _ h
      . cases h
  . exact ki hc l _ s' _ h
  . cases h
theorem uu {r r':ao->au->Option (Ex×au)}(hr:uq r r'){f:FuncId}{all:List AV}{h:ae}{q:HR}(hq:gQ r FT f all h=some q):gQ r' FT f all h=some q:=by
 unfold gQ at hq ⊢;split at hq <;> try (cases hq;done)
 rename_i fi hfi;split at hq <;> try (cases hq;done)
 rename_i hn;rw[if_neg hn];split at hq <;> try (cases hq;done)
 rename_i e s hrun;rw[hr _ _ _ hrun];exact hq
theorem GQ {r r':ao->au->Option (Ex×au)}(hr:uq r r'):pt (iq r ext FT) (iq r' ext FT):=by
 intro g as h q hq;cases g <;> try (cases hq;done)
 rename_i f fi ca;cases f <;> try (cases hq;done)
 . simp only[iq]at hq ⊢;grind[uu]
 . cases fi <;> cases ca <;> try (cases hq;done)
   rename_i b;change mc r b as h=some q at hq
   change mc r' b as h=some q
   unfold mc at hq ⊢;split at hq <;> try (cases hq;done)
   split at hq <;> try (cases hq;done)
   split at hq <;> try (cases hq;done)
   rename_i h3;simp only[hr _ _ _ h3];split at hq <;> try (cases hq;done)
   rename_i h4;split at hq <;> try (cases hq;done)
   rename_i h5;simp only[hr _ _ _ h5];exact hq
theorem Qq:∀n,uq (bw ext inv FT n) (bw ext inv FT (n+1)):=by
 intro n;induction n with
 | zero=>intro c s x h;cases h
 | succ n ih=>
  intro c s x h;have hc:pt (iq (bw ext inv FT n) ext FT) (iq (bw ext inv FT (n+1)) ext FT):=GQ ih;cases c <;> first|exact h|skip
  case region ops=>
   rw[bw]at h ⊢;grind[mf]
  case draw ops=>
   rw[bw]at h ⊢;grind[ki]
  case seq a b=>
   rw[bw]at h ⊢;cases hr:bw ext inv FT n a s with
   | none=>grind
   | some p=>
    rw[ih _ _ _ hr];rw[hr]at h;obtain⟨e,s1⟩:=p;cases e with
    | normal=>exact ih _ _ _ h
    | exit _=>exact h
    | ret=>exact h
  case cond t a b=>
   rw[bw]at h ⊢;split at h
   . exact ih _ _ _ h
   . cases h
  case block id a=>
   rw[bw]at h ⊢;cases hr:bw ext inv FT n a s with
   | none=>grind
   | some p=>
    rw[ih _ _ _ hr];grind
  case loop a=>
   rw[bw]at h ⊢;cases hr:bw ext inv FT n a s with
   | none=>grind
   | some p=>
    rw[ih _ _ _ hr];rw[hr]at h;obtain⟨e,s1⟩:=p;cases e with
    | normal=>exact ih _ _ _ h
    | exit _=>exact h
    | ret=>exact h
  case rangeFunc inner f ps a b=>
   rw[bw]at h ⊢;split at h
   . cases h
   . rename_i hi;rw[if_neg hi];grind[uu]
theorem uv {n m:Nat}(h:n<=m):uq (bw ext inv FT n) (bw ext inv FT m):=by
 induction h with
 | refl=>exact fun _ _ _ h=>h
 | step _ ih=>exact fun c s x hx=>Qq _ c s x (ih c s x hx)
end Go.Ab
namespace Go.Ab
variable {P:Program} {gl:Nat->Option AV} {w:World} {ext:FuncId->List AV->ae->Option HR} {FT:FuncId->Option cU}
def bare:aM:=⟨fun _=>.fresh,fun _=>False⟩
theorem Qr (hgl:∀g v,gl g=some v->V bare w v (.pointer (some ⟨g,0,none⟩))):Mem P gl bare [] w:=
 ⟨aq,fun _ _=>rfl,fun b b' c d d' h=>(by cases h),fun b c d h=>(by cases h),fun c h=>False.elim h,fun b c d h=>(by cases h),hgl⟩
theorem GR (hmix:P.follows .mixedOrders=true)(hext:cB P gl ext)(hFT:lZ P gl FT){n:Nat}{f:FuncId}{as:List AV}{q:HR}(hq:gQ (bw ext (fl P) FT n) FT f as []=some q)
 (hgl:∀g v,gl g=some v->V bare w v (.pointer (some ⟨g,0,none⟩))) {as':List Value} (hv:VL bare w as as') :
 Calls P f as'.toArray w fun e w'=>∃v',e = .returned v'/\(∃ρ',V ρ' w' q.v v')/\w'.os=w.os/\w'.tape=w.tape/\w'.output=w.output/\w.heap.size<=w'.heap.size/\∀c,c<w.heap.size->w'.heap[c]? = w.heap[c]? := by
 obtain⟨_,h2⟩:=ud (by grind[Ad]) hFT hq (Qr hgl) hv;have h3:=callsIn_wide.1 h2;refine h3.mono fun e w' he=>?_
 cases e with
 | returned v=>
  obtain⟨ρ',hv',m',x⟩:=he;exact⟨v,rfl,⟨ρ',hv'⟩,x.os,x.tape,x.output,x.size,fun c hc=>x.cT c hc fun b d hb=>by cases hb⟩
 | panicked _=>grind
 | outgrown=>grind
end Go.Ab
namespace Go.Ab
open Go.ChangeShapes Go.WideShapes Go.RowKit
variable {H:Type} {enc:TypeId×Value->H} {P:Program}
theorem GS {W W':World}(h:W'.os=W.os/\W'.tape=W.tape/\W'.output=W.output/\W.heap.size<=W'.heap.size/\∀c,c<W.heap.size->W'.heap[c]? = W.heap[c]?):Below W.heap.size W W':=
 ⟨h.1,h.2.1,h.2.2.1,h.2.2.2.1,h.2.2.2.2⟩
theorem GU (hl:laidOutB P=true){W W':World}(hb:Below W.heap.size W W'):∀{ts:List TypeId} {vs:List Value} {ds:List (DataW H)} {ps:List MemPlace},(∀t∈ts,P.readableRec t=true/\t<P.types.size) ->
 DataW.TrodAll enc P W 0 (fun _=>true) true ts vs ds ps->(∀x∈ps,x.block<W.heap.size)->∀sp:Nat->Bool,(∀p∈ps,sp p.block=true)->DataW.TrodAll enc P W' 0 sp true ts vs ds ps
 | [],vs,ds,ps,_,h,_,sp,_=>by obtain⟨rfl,rfl,rfl⟩:=trodAll_nil h;rfl
 | t::ts,vs,ds,ps,ht,h,hlt,sp,hsp=>by
  obtain⟨v,vs',d,ds',p,q,rfl,rfl,rfl,h1,h2⟩:=trodAll_cons h;obtain⟨g1,g2⟩:=ht t aq;refine trodAll_cons_mk (WideElems.Trod_stays hl g1 g2 h1 (fun x hx=>hb.same (hlt x (by simp[hx]))) (fun x hx=>hsp x (by simp[hx]))) ?_;exact GU hl hb (fun t ht'=>ht t (by simp[ht'])) h2 (fun x hx=>hlt x (by simp[hx])) sp fun x hx=>hsp x (by simp[hx])
theorem Qs {f:Func}{s:ChangeSpec}{apart fresh handsOn again:Bool}{W W':World}{args:Array Value}{ds gs:List (DataW H)}{before:List MemPlace}(hW:DataW.Whole enc P f.params.toList s.vars apart W args.toList ds gs before)
 (hl:laidOutB P=true) (ht:∀t∈f.params.toList,P.readableRec t=true/\t<P.types.size) (hvars:s.vars=[]) (hb:Below W.heap.size W W')
 {bt:TypeId} (hbt:P.underlying bt=some .bool) (hrt:f.resultTypes = #[bt]) (h1:(s.fn H (ds++gs)).results=[.lit (.bool true)]) (h2:(s.fn H (ds++gs)).args=ds) (h3:(s.fn H (ds++gs)).vars=[]) :
 s.post enc P f apart fresh handsOn again W args (.bool true) W':=by
 have hlt:∀x∈before,x.block<W.heap.size:=fun x hx=>by simpa using hW.lt x hx
 have hold:∀p∈before,(fun b=>decide (b<W.heap.size)) p.block=true:=aw;have hW':=hW;obtain⟨p,q,hA,hV,hpq,hz,hn⟩:=hW';rw[hvars]at hV;obtain⟨hgs,hq⟩:=trodVars_none hV;subst hq;rw[List.append_nil]at hpq;subst hpq;have hargs:=GU hl hb ht hA hlt;have hargs':∀sp:Nat->Bool,(∀p∈before,sp p.block=true)->DataW.TrodAll enc P W' 0 sp true f.params.toList args.toList (s.fn H (ds++gs)).args before:=by
  rw[h2];exact hargs
 have hres:∀(b:Nat) (sp:Nat->Bool) (hd:Bool),DataW.TrodAll enc P W' b sp hd f.resultTypes.toList ((Value.bool true).resultList f.resultTypes.size) (s.fn H (ds++gs)).results []:=by
  intro b sp hd;rw[h1,hrt];exact trodAll_cons_mk (shut_bool hbt true) trodAll_mk0
 have hvar:∀sp:Nat->Bool,DataW.TrodVars enc P W' sp s.vars (s.fn H (ds++gs)).vars []:=by
  intro sp;rw[hvars,h3];rfl
 have hkept:W.keptBut W' (fun _=>False):=by
  refine⟨hb.os,hb.output,fun i hi=>?_⟩;have:=(World.keptBut_refl W (fun _=>False)).2.2 i hi;rw[hb.block i hi];exact this
 refine⟨ds,gs,before,[],before,[],hW,hres _ _ _,hargs' _ hold,hvar _,World.keptBut_mono aq hkept,fun _=>?_⟩;refine⟨ok_one hrt rfl (okWide_bool_mk hbt true),_,_,([]++before)++[],⟨[]++before,[],trodAll_append (hargs' _ (fun _ _=>rfl)) (hres _ _ _),hvar _,rfl,?_,?_⟩,?_⟩
 . intro b off hp;have hp':MemPlace.cell b off∈before:=by simpa using hp
   have hlt':=hlt _ hp';rw[FH (w:=W) (hb.block b hlt')];exact hz b off hp'
 . grind
 grind
end Go.Ab
namespace Go.Ab
variable {P:Program} {gl:Nat->Option AV} {ρ:aM} {w:World} {h:ae}
mutual
def dI:AV->Bool
 | .vp l=>l.isEmpty
 | .vs l _ _=>l.isEmpty
 | .fn _ a b=>fE a && fE b
 | .iface _ v=>dI v
 | .agg l=>fE l
 | .ay l=>fE l
 | _=>true
def fE:List AV->Bool
 | []=>true
 | v::r=>dI v && fE r
end
theorem gR:∀{l:List AV} {i:Nat} {x:AV},fE l=true->l[i]? = some x->dI x=true
 | [],i,x,_,h=>by simp at h
 | v::r,0,x,h,hx=>by simp only[fE,aZ]at h;grind
 | v::r,i+1,x,h,hx=>by simp only[fE,aZ]at h;simp at hx;exact gR h.2 hx
inductive Rn (ks:List Nat) (N:Nat):AV->AV->Prop
 | same {v:AV} (ht:v.top=0):Rn ks N v v
 | sl {i b off len esz:Nat} {cap:Option Nat} (hi:ks[i]? = some b):Rn ks N (.sl b off len esz cap) (.sl (N+i) off len esz cap)
 | ptr {i b off:Nat} (hi:ks[i]? = some b):Rn ks N (.ptr b off) (.ptr (N+i) off)
 | map {i b:Nat} (hi:ks[i]? = some b):Rn ks N (.map b) (.map (N+i))
 | vs {l l0:List AV} {n:Nat} {cap:Option Nat} (hl:l.length=l0.length) (hg:∀(i:Nat) x y,l[i]? = some x->l0[i]? = some y->Rn ks N x y):Rn ks N (.vs l n cap) (.vs l0 n cap)
 | agg {l l0:List AV} (hl:l.length=l0.length) (hg:∀(i:Nat) x y,l[i]? = some x->l0[i]? = some y->Rn ks N x y):Rn ks N (.agg l) (.agg l0)
 | ay {l l0:List AV} (hl:l.length=l0.length) (hg:∀(i:Nat) x y,l[i]? = some x->l0[i]? = some y->Rn ks N x y):Rn ks N (.ay l) (.ay l0)
 | fn {f:Fn} {fi fi0 ca ca0:List AV} (hf:∀l,f≠.yield l) (h1:fi.length=fi0.length) (h2:ca.length=ca0.length) (g1:∀(i:Nat) x y,fi[i]? = some x->fi0[i]? = some y->Rn ks N x y)
     (g2:∀(i:Nat) x y,ca[i]? = some x->ca0[i]? = some y->Rn ks N x y):Rn ks N (.fn f fi ca) (.fn f fi0 ca0)
def pw (ks:List Nat)(N:Nat)(l l0:List AV):Prop:=l.length=l0.length/\∀(i:Nat) x y,l[i]? = some x->l0[i]? = some y->Rn ks N x y
inductive rp (ks:List Nat) (N:Nat):bR->bR->Prop
 | cells {l l0:List AV} {e:TypeId} (h:pw ks N l l0):rp ks N (.cells l e) (.cells l0 e)
 | map {es es0:List (AV×AV)} (h1:pw ks N (es.map (·.1)) (es0.map (·.1))) (h2:pw ks N (es.map (·.2)) (es0.map (·.2))):rp ks N (.map es) (.map es0)
def uw:bR->Bool
 | .cells l _=>fE l
 | .map es=>fE (es.map (·.1)) && fE (es.map (·.2))
 | _=>true
theorem pw.cons {ks:List Nat}{N:Nat}{x y:AV}{l m:List AV}(h1:Rn ks N x y)(h2:pw ks N l m):pw ks N (x::l) (y::m):=by
 refine⟨by simp[h2.1],fun i a b ha hb=>?_⟩;cases i with
 | zero=>grind
 | succ i=>simp at ha hb;exact h2.2 i a b ha hb
theorem GV {ρ' ρ1:aM}{a:AV}{v:Value}(ht:a.top=0)(hn:dI a=true)(hv:V ρ' w a v):V ρ1 w a v:=by
 have key:∀{a v},V ρ' w a v->a.top=0->dI a=true->V ρ1 w a v:=by
  intro a v hv;induction hv with
  | dj v=>exact fun _ _=>.dj v
  | bool b=>exact fun _ _=>.bool b
  | int k n=>exact fun _ _=>.int k n
  | str s=>exact fun _ _=>.str s
  | eK=>exact fun _ _=>.eK
  | ptr o hb=>exact fun h _=>by simp[AV.top]at h
  | eM o c o' hb=>exact fun h _=>by simp[AV.top]at h
  | @vp l c o g hf hc _ ih=>intro _ hn;simp only[dI,gU]at hn;subst hn;exact .vp c o g aq aq aq
  | ab=>exact fun _ _=>.ab
  | sl hb hl hcap hs=>exact fun h _=>by simp[AV.top]at h
  | fX hb=>exact fun h _=>by simp[AV.top]at h
  | fm c o' hb hl hcap=>exact fun h _=>by simp[AV.top]at h
  | fJ hb=>exact fun h _=>by simp[AV.top]at h
  | fY a hb=>exact fun h _=>by simp[AV.top]at h
  | @vs l len capC cap c o g hf hl hcap hc _ ih=>intro _ hn;simp only[dI,gU]at hn;subst hn;exact .vs c o g aq hl hcap aq aq
  | fa hcap=>exact fun _ _=>.fa hcap
  | fK a hcap=>exact fun _ _=>.fK a hcap
  | eO=>exact fun _ _=>.eO
  | map hb=>exact fun h _=>by simp[AV.top]at h
  | iw v hb=>exact fun h _=>by simp[AV.top]at h
  | yield hb=>exact fun h _=>by simp[AV.top]at h
  | @fn f fi ca _ _ hf h1 h2 _ _ ih1 ih2=>
   intro h hn;have hh:bz fi<=0/\bz ca<=0:=by
    cases f <;> simp only[AV.top]at h <;> exact⟨ac,ac⟩
   simp only[dI,aZ]at hn;exact .fn hf h1 h2 (fun i x y a b=>ih1 i x y a b (by have:=fx hh.1 i x a;omega) (gR hn.1 a)) (fun i x y a b=>ih2 i x y a b (by have:=fx hh.2 i x a;omega) (gR hn.2 a))
  | gY v hb=>exact fun h _=>by simp[AV.top]at h
  | fH=>exact fun _ _=>.fH
  | iface _ ih=>exact fun h hn=>.iface (ih (by simpa only[AV.top] using h) (by simpa only[dI] using hn))
  | dN=>exact fun _ _=>.dN
  | agg hl _ ih=>exact fun h hn=>.agg hl (fun i x y a b=>ih i x y a b (by have:=fx (n:=0) (by simpa only[AV.top,Nat.le_zero] using h) i x a;omega) (gR (by simpa only[dI] using hn) a))
  | ay hl _ ih=>exact fun h hn=>.ay hl (fun i x y a b=>ih i x y a b (by have:=fx (n:=0) (by simpa only[AV.top,Nat.le_zero] using h) i x a;omega) (gR (by simpa only[dI] using hn) a))
 grind
theorem Rn.view {ks:List Nat}{N:Nat}{ρ' ρ1:aM}(hρ:∀(i b:Nat),ks[i]? = some b->ρ1 (N+i)=ρ' b){a a1:AV}(hr:Rn ks N a a1) :
 (dI a=true\/∀c,da ρ' c->da ρ1 c)->∀{v:Value},V ρ' w a v->V ρ1 w a1 v:=by
 induction hr with
 | @same a ht=>
  intro hF v hv;rcases hF with hF|hF
  . exact GV ht hF hv
  . exact hv.gC (n:=0) aq hF ac
 | sl hi=>
  intro _ v hv;cases hv with
  | sl h1 h2 h3 h4=>exact .sl aw h2 h3 h4
  | fX h1=>exact .fX aw
  | fm c o' h1 h2 h3=>exact .fm c o' aw h2 h3
  | fJ h1=>exact .fJ aw
  | fY a h1=>exact .fY a aw
 | ptr hi=>
  intro _ v hv;cases hv with
  | ptr _ h1=>exact .ptr _ aw
  | eM _ _ _ h1=>exact .eM _ _ _ aw
 | map hi=>
  intro _ v hv;cases hv with
  | map h1=>exact .map aw
  | iw c h1=>exact .iw c aw
 | @vs l l0 n cap hl hg ih=>
  intro hF v hv;cases hv with
  | vs c o g hf h2 h3 h4 h5=>
   by_cases hn:l=[]
   . subst hn;have:l0=[]:=aw;subst this;exact .vs c o g aq h2 h3 aq aq
   . have hF':∀c,da ρ' c->da ρ1 c:=by
      rcases hF with hF|hF
      . simp only[dI,gU]at hF;grind
      . exact hF
     refine .vs c o g aw h2 h3 aw (fun i y hy=>?_);have hi:i<l.length:=by have:=(aW.1 hy).1;omega
     exact ih i _ y (az hi) hy (.inr hF') (h5 i _ (az hi))
  | fa hc=>
   have:l0=[]:=aw;subst this;exact .fa hc
  | fK a hc=>
   have:l0=[]:=aw;subst this;exact .fK a hc
 | @agg l l0 hl hg ih=>
  intro hF v hv;cases hv with
  | @agg _ mm h1 h2=>
   refine .agg ac fun i y z hy hz=>?_
   have hi:i<l.length:=by have:=(aW.1 hy).1;omega
   exact ih i _ y (az hi) hy (hF.imp (fun h=>by simp only[dI]at h;exact gR h (az hi)) id) (h2 i _ z (az hi) hz)
 | @ay l l0 hl hg ih=>
  intro hF v hv;cases hv with
  | @ay _ mm h1 h2=>
   refine .ay ac fun i y z hy hz=>?_
   have hi:i<l.length:=by have:=(aW.1 hy).1;omega
   exact ih i _ y (az hi) hy (hF.imp (fun h=>by simp only[dI]at h;exact gR h (az hi)) id) (h2 i _ z (az hi) hz)
 | @fn f fi fi0 ca ca0 hf h1 h2 g1 g2 ih1 ih2=>
  intro hF v hv;cases hv with
  | fn hf' a1 a2 a3 a4=>
   refine .fn hf ac ac (fun i y z hy hz=>?_) (fun i y z hy hz=>?_)
   . have hi:i<fi.length:=by have:=(aW.1 hy).1;omega
     exact ih1 i _ y (az hi) hy (hF.imp (fun h=>by simp only[dI,aZ]at h;exact gR h.1 (az hi)) id) (a3 i _ z (az hi) hz)
   . have hi:i<ca.length:=by have:=(aW.1 hy).1;omega
     exact ih2 i _ y (az hi) hy (hF.imp (fun h=>by simp only[dI,aZ]at h;exact gR h.2 (az hi)) id) (a4 i _ z (az hi) hz)
  | yield _=>grind
  | gY _ _=>grind
inductive Fr (h:ae) (S:List Nat):AV->AV->Prop
 | same {v:AV} (ht:v.top=0):Fr h S v v
 | nil {cap:Option Nat} (hc:∀n,cap=some n->n=0):Fr h S .ab (.vs [] 0 cap)
 | sl {b off len esz:Nat} {cap cap':Option Nat} {l m m0:List AV} {e:TypeId} (hb:b∈S) (ha:h.at b=some (.cells l e)) (hc:cut l off (len*esz)=some m) (hl:m.length=m0.length)
     (hg:∀(i:Nat) x y,m[i]? = some x->m0[i]? = some y->Fr h S x y) (hcc:cap'=cap\/cap'=none:=by exact .inl rfl):Fr h S (.sl b off len esz cap) (.vs m0 len cap')
 | ptr {b off:Nat} {l m0:List AV} {e:TypeId} (hb:b∈S) (ha:h.at b=some (.cells l e)) (hl:(l.drop off).length=m0.length)
     (hg:∀(i:Nat) x y,(l.drop off)[i]? = some x->m0[i]? = some y->Fr h S x y):Fr h S (.ptr b off) (.vp m0)
 | vs {l l0:List AV} {n:Nat} {cap:Option Nat} (hl:l.length=l0.length) (hg:∀(i:Nat) x y,l[i]? = some x->l0[i]? = some y->Fr h S x y):Fr h S (.vs l n cap) (.vs l0 n cap)
 | agg {l l0:List AV} (hl:l.length=l0.length) (hg:∀(i:Nat) x y,l[i]? = some x->l0[i]? = some y->Fr h S x y):Fr h S (.agg l) (.agg l0)
 | ay {l l0:List AV} (hl:l.length=l0.length) (hg:∀(i:Nat) x y,l[i]? = some x->l0[i]? = some y->Fr h S x y):Fr h S (.ay l) (.ay l0)
 | fn {f:Fn} {fi fi0 ca ca0:List AV} (hf:∀l,f≠.yield l) (h1:fi.length=fi0.length) (h2:ca.length=ca0.length) (g1:∀(i:Nat) x y,fi[i]? = some x->fi0[i]? = some y->Fr h S x y)
     (g2:∀(i:Nat) x y,ca[i]? = some x->ca0[i]? = some y->Fr h S x y):Fr h S (.fn f fi ca) (.fn f fi0 ca0)
def gE (h:ae)(S:List Nat)(l l0:List AV):Prop:=l.length=l0.length/\∀(i:Nat) x y,l[i]? = some x->l0[i]? = some y->Fr h S x y
def dK (ρ:aM)(S:List Nat):aM:=⟨fun _=>.fresh,fun c=>ρ.X c\/∃b d,ρ b = .live c d/\b∉S⟩
theorem da.dK {c:Nat}(S:List Nat)(hf:da ρ c):da (dK ρ S) c:=by
 refine⟨fun b d hb=>by simp[Go.Ab.dK]at hb,?_⟩;rintro(hx|⟨b,d,hb,_⟩)
 . exact hf.2 hx
 . exact hf.1 b d hb
theorem Fr.view (m:Mem P gl ρ h w){S:List Nat}{a a0:AV}(hr:Fr h S a a0):∀{v:Value},V ρ w a v->V (dK ρ S) w a0 v:=by
 have hfree:∀{b c d},b∈S->ρ b = .live c d->da (dK ρ S) c:=fun {b c d} hb hl=>by
  refine⟨fun b d hb=>by simp[Go.Ab.dK]at hb,?_⟩;rintro(hx|⟨b',d',hb',hn⟩)
  . exact m.xo _ _ _ hl hx
  . exact hn (m.inj _ _ _ _ _ hb' hl ▸ hb)
 have hat:∀{b o},h.at b=some o->h[b]? = some (some o):=fun {b o} hb=>by
  unfold ae.at at hb;grind
 induction hr with
 | same ht=>exact fun hv=>hv.gC (n:=0) aq (fun c hc=>hc.dK S) ac
 | nil hc=>
  intro v hv;cases hv;exact .fa hc
 | @sl b off len esz cap cap' l m' m0 e hb ha hc hl hg hcc ih=>
  intro v hv;have hB:=m.dm b _ (hat ha);have hcut:m'.length=len*esz/\∀i,i<m'.length->m'[i]? = l[off+i]? := by
   simp only[cut]at hc;split at hc
   . grind
   . cases hc
  cases hv with
  | @sl _ c d _ _ _ capC _ h1 h2 h3 h4=>
   have h3:∀n,cap'=some n->capC=n:=aw;rcases hB with ⟨c',d',cs,fr,g1,g2,g3,g4,g5⟩|⟨g1,_⟩
   . rw[h1]at g1;cases g1;refine .vs c (off+d) (fun i=>cs.getD (off+d+i) (.bool false)) aw h2 h3 (fun i hi=>?_) (fun i y hy=>?_)
     . have hi':i<m'.length:=by omega
       have hlt:off+i<l.length:=by
        have:=hcut.2 i hi';rw[az hi']at this;exact(aW.1 this.symm).1
       have:off+d+i<cs.size:=by have:=g3.1;omega
       simp only[kw,g2];simp[this,k9]
     . have hi:i<m0.length:=(aW.1 hy).1;have hi':i<m'.length:=by omega
       have hx:=hcut.2 i hi';rw[az hi']at hx;have hlt:off+i<l.length:=(aW.1 hx.symm).1;have hs:off+d+i<cs.size:=by have:=g3.1;omega
       refine ih i m'[i] y (az hi') hy ?_;refine g5 (off+i) _ _ hx.symm ?_;rw[show off+i+d=off+d+i from by omega];simp[hs,k9]
   grind
  | @fX _ _ h1=>
   rcases hB with ⟨c',d',cs,fr,g1,_⟩|⟨g1,g2⟩
   . grind
   . have:m0=[]:=aw;subst this;exact .fa aw
  | fm c o' h1 _ _=>
   rcases hB with ⟨c',d',cs,fr,g1,_⟩|⟨g1,g2⟩ <;> (rw[h1]at g1;cases g1)
  | fY a h1=>
   rcases hB with ⟨c',d',cs,fr,g1,_⟩|⟨g1,g2⟩ <;> (rw[h1]at g1;cases g1)
  | fJ h1=>
   rcases hB with ⟨c',d',cs,fr,g1,_⟩|⟨g1,g2⟩ <;> (rw[h1]at g1;cases g1)
 | @ptr b off l m0 e hb ha hl hg ih=>
  intro v hv;have hB:=m.dm b _ (hat ha);cases hv with
  | @ptr _ c d _ h1=>
   rcases hB with ⟨c',d',cs,fr,g1,g2,g3,g4,g5⟩|⟨g1,_⟩
   . rw[h1]at g1;cases g1;refine .vp c (off+d) (fun i=>cs.getD (off+d+i) (.bool false)) aw (fun i hi=>?_) (fun i y hy=>?_)
     . have:off+d+i<cs.size:=by have:=g3.1;simp at hl;omega
       simp only[kw,g2];simp[this,k9]
     . have hi:i<m0.length:=(aW.1 hy).1;have hi':i<(l.drop off).length:=by omega
       have hlt:off+i<l.length:=by simp at hi';omega
       have hs:off+d+i<cs.size:=by have:=g3.1;omega
       refine ih i _ y (az hi') hy ?_;refine g5 (off+i) _ _ aq ?_;rw[show off+i+d=off+d+i from by omega];simp[hs,k9]
   grind
  | eM _ c o' h1=>
   rcases hB with ⟨c',d',cs,fr,g1,_⟩|⟨g1,g2⟩ <;> (rw[h1]at g1;cases g1)
 | @vs l l0 n cap hl hg ih=>
  intro v hv;cases hv with
  | vs c o g hf h2 h3 h4 h5=>
   refine .vs c o g (fun hn=>(hf fun e=>?_).dK S) h2 h3 aw (fun i y hy=>?_)
   . grind
   . have hi:i<l.length:=by have:=(aW.1 hy).1;omega
     exact ih i _ y (az hi) hy (h5 i _ (az hi))
  | fa hc=>
   have:l0=[]:=aw;subst this;exact .fa hc
  | fK a hc=>
   have:l0=[]:=aw;subst this;exact .fK a hc
 | @agg l l0 hl hg ih=>
  intro v hv;cases hv with
  | @agg _ mm h1 h2=>
   refine .agg ac fun i y z hy hz=>?_
   have hi:i<l.length:=by have:=(aW.1 hy).1;omega
   exact ih i _ y (az hi) hy (h2 i _ z (az hi) hz)
 | @ay l l0 hl hg ih=>
  intro v hv;cases hv with
  | @ay _ mm h1 h2=>
   refine .ay ac fun i y z hy hz=>?_
   have hi:i<l.length:=by have:=(aW.1 hy).1;omega
   exact ih i _ y (az hi) hy (h2 i _ z (az hi) hz)
 | @fn f fi fi0 ca ca0 hf h1 h2 g1 g2 ih1 ih2=>
  intro v hv;cases hv with
  | fn hf' a1 a2 a3 a4=>
   refine .fn hf ac ac (fun i y z hy hz=>?_) (fun i y z hy hz=>?_)
   . have hi:i<fi.length:=by have:=(aW.1 hy).1;omega
     exact ih1 i _ y (az hi) hy (a3 i _ z (az hi) hz)
   . have hi:i<ca.length:=by have:=(aW.1 hy).1;omega
     exact ih2 i _ y (az hi) hy (a4 i _ z (az hi) hz)
  | yield _=>grind
  | gY _ _=>grind
theorem gE.view (m:Mem P gl ρ h w){S:List Nat}{l l0:List AV}(hr:gE h S l l0){vs:List Value}(hv:VL ρ w l vs):VL (dK ρ S) w l0 vs:=
 ⟨by rw[←hr.1];exact hv.1,fun i y z hy hz=>by
  have hi:i<l.length:=by have:=(aW.1 hy).1;have:=hr.1;omega
  exact(hr.2 i _ y (az hi) hy).view m (hv.2 i _ z (az hi) hz)⟩
theorem Mem.dK (hgl:∀g v,gl g=some v->v.top=0)(m:Mem P gl ρ h w)(S:List Nat):Mem P gl (dK ρ S) [] w:=by
 refine⟨aq,fun b _=>rfl,?_,?_,?_,?_,fun g v hg=>?_⟩
 . intro b b' c d d' h1;simp[Go.Ab.dK]at h1
 . intro b c d h1;simp[Go.Ab.dK]at h1
 . rintro c (hc|⟨b,d,hb,_⟩)
   . exact m.xb c hc
   . exact m.bound b c d hb
 . intro b c d h1;simp[Go.Ab.dK]at h1
 . exact(m.gl g v hg).gC (n:=0) aq (fun c hc=>hc.dK S) aw
theorem GW (m:Mem P gl ρ h w){S ks:List Nat}{v v1:AV}{hh:ae}{bs:List bR}{v':Value}{w':World}(hnd:ks.Nodup)(hv1:Rn ks h.length v v1)(hlen:ks.length=bs.length)
 (hbs:∀(i b:Nat) o1,ks[i]? = some b->bs[i]? = some o1->∃o,hh.at b=some o/\rp ks h.length o o1/\(S=[]\/uw o=true)) (hn:S=[]\/dI v=true) (hd:fe P gl (dK ρ S) [] w ⟨v,hh,[]⟩ v' w') :
 fe P gl ρ h w ⟨v1,h++bs.map some,[]⟩ v' w':=by
 obtain⟨ρ',hv,m',x⟩:=hd;have cT:∀c,c<w.heap.size->w'.heap[c]? = w.heap[c]? := fun c hc=>x.cT c hc fun b d hb=>by simp[Go.Ab.dK]at hb
 have new:∀b c d,ρ' b = .live c d->w.heap.size<=c:=fun b c d hb=>by
  rcases bc c w.heap.size with hc|hc
  . rcases x.back b c d hb hc with h1|⟨b0,d0,h1,_⟩ <;> simp[Go.Ab.dK]at h1
  omega
 have hat:∀{b o},hh.at b=some o->hh[b]? = some (some o):=fun {b o} hb=>by
  unfold ae.at at hb;grind
 let ρ1:aM:=⟨fun b=>if b<h.length then ρ b else match ks[b-h.length]? with|some k=>ρ' k|none=>.fresh,ρ.X⟩
 have hlt:∀b,b<h.length->ρ1 b=ρ b:=aw;have hge:∀(i k:Nat),ks[i]? = some k->ρ1 (h.length+i)=ρ' k:=aw;have hback:∀b c d,h.length<=b->ρ1 b = .live c d->∃k:Nat,ks[b-h.length]? = some k/\ρ' k = .live c d:=aw;have hfr:∀b,ρ b≠.fresh->b<h.length:=fun b hb=>by
  rcases bc b h.length with h1|h1
  . exact h1
  . exact absurd (m.fresh b h1) hb
 have E:Ext h (h++bs.map some) ρ ρ1 w w':=by
  refine⟨x.os,x.tape,x.output,x.size,aq,rfl,?_,?_,?_,?_,?_,?_,?_,x.shape⟩
  . grind
  . grind
  . grind
  . grind
  . grind
  . grind
  . grind
 have hF:S=[]->∀c,da ρ' c->da ρ1 c:=by
  intro hS c hc;have hX:ρ'.X=(dK ρ S).X:=x.X;have h2:=hc.2;rw[hX]at h2;refine⟨fun b d hb=>?_,fun hx=>h2 (.inl hx)⟩;rcases bc b h.length with h1|h1
  . rw[hlt b h1]at hb;exact h2 (.inr ⟨b,d,hb,aw⟩)
  . obtain⟨k,_,hk⟩:=hback b c d h1 hb;exact hc.1 _ _ hk
 have hvs:∀{a a1:AV} {u:Value},(S=[]\/dI a=true)->Rn ks h.length a a1->V ρ' w' a u->V ρ1 w' a1 u:=fun {a a1 u} hc hr hu=>
  hr.view hge aw hu
 refine⟨ρ1,hvs hn hv1 hv,m.ext E ?_ ?_ ?_ ?_,E⟩
 . intro b o hb;rcases bc b h.length with h1|h1
   . rw[cK h1]at hb;exact(m.dm b o hb).mono E (hlt b h1) fun c d hl=>cT c (m.bound b c d hl)
   . rw[d7 h1]at hb;obtain⟨o1,hq,rfl⟩:∃o1,bs[b-h.length]? = some o1/\o1=o:=by grind
     have hi:b-h.length<ks.length:=by have:=(aW.1 hq).1;omega
     have hk:ks[b-h.length]? = some ks[b-h.length]:=az hi;obtain⟨o,ho,hB,hnb⟩:=hbs _ _ _ hk hq;have hB':=m'.dm _ _ (hat ho);have hb1:ρ1 b=ρ' ks[b-h.length]:=by have:=hge _ _ hk;rwa [show h.length+(b-h.length)=b from by omega]at this
     cases hB with
     | @cells l l0 e hl=>
      rcases hB' with ⟨c,d,cs,fr,g1,g2,g3,g4,g5⟩|⟨g1,g2⟩
      . refine .inl ⟨c,d,cs,fr,hb1.trans g1,g2,⟨by have:=hl.1;have:=g3.1;omega,fun he=>⟨(g3.2 he).1,by have:=hl.1;have:=(g3.2 he).2;omega⟩⟩,g4,fun i y z hy hz=>?_⟩;have hi:i<l.length:=by have:=(aW.1 hy).1;have:=hl.1;omega
        exact hvs (hnb.imp id fun hh'=>gR hh' (az hi)) (hl.2 i _ y (az hi) hy) (g5 i _ z (az hi) hz)
      . refine .inr ⟨hb1.trans g1,?_⟩;have:=hl.1;grind
     | @map es es0 hl1 hl2=>
      obtain⟨c,ms,clk,g1,g2,g3,g4⟩:=hB';have hle:es.length=es0.length:=by have:=hl1.1;simpa using this
      refine⟨c,ms,clk,hb1.trans g1,g2,ac,fun i kx vx mm hx hm=>?_⟩;have hi:i<es.length:=by have:=(aW.1 hx).1;omega
      have he:es[i]? = some (es[i].1,es[i].2):=az hi;obtain⟨q1,q2⟩:=g4 i _ _ mm he hm;have r1:=hl1.2 i es[i].1 kx (by simp[he]) (by simp[hx]);have r2:=hl2.2 i es[i].2 vx (by simp[he]) (by simp[hx]);have hnn:S=[]\/(dI es[i].1=true/\dI es[i].2=true):=hnb.imp id fun hh'=>by
       simp only[uw,aZ]at hh';exact⟨gR hh'.1 (i:=i) (by simp[he]),gR hh'.2 (i:=i) (by simp[he])⟩
      grind
 . grind
 . intro b b' c d d' h1 h2;rcases bc b h.length with hb|hb <;> rcases bc b' h.length with hb'|hb'
   . rw[hlt b hb]at h1;rw[hlt b' hb']at h2;exact m.inj _ _ _ _ _ h1 h2
   . obtain⟨k,_,hk⟩:=hback _ _ _ hb' h2;rw[hlt b hb]at h1;have:=m.bound _ _ _ h1;grind
   . obtain⟨k,_,hk⟩:=hback _ _ _ hb h1;rw[hlt b' hb']at h2;have:=m.bound _ _ _ h2;grind
   . obtain⟨k,e1,hk⟩:=hback _ _ _ hb h1;obtain⟨k',e2,hk'⟩:=hback _ _ _ hb' h2;have:=m'.inj _ _ _ _ _ hk hk';subst this;obtain⟨l1,q1⟩:=aW.1 e1;obtain⟨l2,q2⟩:=aW.1 e2;have:=(List.getElem_inj hnd).1 (q1.trans q2.symm);omega
 . intro b c d hb;rcases bc b h.length with h1|h1
   . rw[hlt b h1]at hb;exact dr (m.bound _ _ _ hb) x.size
   . obtain⟨k,_,hk⟩:=hback _ _ _ h1 hb;exact m'.bound _ _ _ hk
theorem GX (hgl:∀g v,gl g=some v->v.top=0){f:Nat}{as as0:List AV}{v v1:AV}{hh:ae}{bs:List bR}{S ks:List Nat}(hr:gE h S as as0)(hnd:ks.Nodup)(hv1:Rn ks h.length v v1)(hlen:ks.length=bs.length)
 (hbs:∀(i b:Nat) o1,ks[i]? = some b->bs[i]? = some o1->∃o,hh.at b=some o/\rp ks h.length o o1/\(S=[]\/uw o=true)) (hn:S=[]\/dI v=true)
 (hloc:bl P gl ⟨f,as0,[],⟨v,hh,[]⟩⟩):bl P gl ⟨f,as,h,⟨v1,h++bs.map some,[]⟩⟩:=by
 refine⟨zJ _ _ _,fun ρ w as' m hl=>?_⟩;obtain⟨nx,w1,h1,h2⟩:=hloc.2 (dK ρ S) w as' (m.dK hgl S) (hr.view m hl);exact⟨nx,w1,h1,h2.mono fun v w' hd=>GW m hnd hv1 hlen hbs hn hd⟩
end Go.Ab
namespace Go.Ab
variable {c:ao} {s:au} {Q:au->Prop} {l:List aY} {a b n:Int} {x y i:aO} {t:Nat} {pe as:List AV} {lo:List (Nat×AV)} {hp:ae} {df wr:List Nat} {d:fj} {v:AV} {r:HR} {k:IntKind}
structure ax where
 ext:FuncId->List AV->ae->Option HR
 inv:eW
 FT:FuncId->Option cU
abbrev ax.ev (M:ax)(n:Nat):=bw M.ext M.inv M.FT n
abbrev ax.call (M:ax)(n:Nat):=iq (M.ev n) M.ext M.FT
structure W (M:ax)(c:ao)(s:au)(Q:Ex->au->Prop):Prop where
 out:∃n e s',M.ev n c s=some (e,s')/\Q e s'
structure WO (M:ax)(l:List aY)(s:au)(Q:au->Prop):Prop where
 out:∃n s',fk (M.call n) M.inv l s=some s'/\Q s'
structure WD (M:ax)(l:List (aY×List Nat))(s:au)(ds:List ck)(Q:au->Prop):Prop where
 out:∃n s',dS (M.call n) M.inv l s ds=some s'/\Q s'
structure WC (M:ax)(g:AV)(as:List AV)(h:ae)(Q:HR->Prop):Prop where
 out:∃n r,M.call n g as h=some r/\Q r
def bg (M:ax)(f:FuncId)(as:List AV)(h:ae)(r:HR):Prop:=∃n,gQ (M.ev n) M.FT f as h=some r
variable {M:ax}
theorem ux {n m:Nat}(h:n<=m){c:ao}{s:au}{x:Ex×au}(hx:M.ev n c s=some x):M.ev m c s=some x:=uv h c s x hx
theorem jo {n m:Nat}(h:n<=m):pt (M.call n) (M.call m):=GQ (uv h)
theorem W.mono {Q R:Ex->au->Prop}(h:W M c s Q)(hr:∀e s',Q e s'->R e s'):W M c s R:=by
 obtain⟨⟨n,e,s',h1,h2⟩⟩:=h;exact⟨⟨n,e,s',h1,hr _ _ h2⟩⟩
theorem WO.mono {R:au->Prop}(h:WO M l s Q)(hr:∀s',Q s'->R s'):WO M l s R:=by
 obtain⟨⟨n,s',h1,h2⟩⟩:=h;exact⟨⟨n,s',h1,hr _ h2⟩⟩
structure SQ (M:ax)(b:ao)(Q:Ex->au->Prop)(e:Ex)(s:au):Prop where
 out:match e with
  | .normal=>W M b s Q
  | e=>Q e s
structure BQ (id:Nat)(Q:Ex->au->Prop)(e:Ex)(s:au):Prop where
 out:match e with
  | .exit i=>if i=id then Q .normal s else Q (.exit i) s
  | e=>Q e s
structure LQ (M:ax)(c:ao)(Q:Ex->au->Prop)(e:Ex)(s:au):Prop where
 out:match e with
  | .normal=>W M (.loop c) s Q
  | e=>Q e s
theorem abC {Q:Ex->au->Prop}(h:Q .normal s):W M .skip s Q:=⟨⟨1,.normal,s,rfl,h⟩⟩
theorem abw {Q:Ex->au->Prop}(h:Q .ret s):W M .ret s Q:=⟨⟨1,.ret,s,rfl,h⟩⟩
theorem acH {i:Nat}{Q:Ex->au->Prop}(h:Q (.exit i) s):W M (.exit i) s Q:=⟨⟨1,.exit i,s,rfl,h⟩⟩
theorem aaQ {a b:ao}{Q:Ex->au->Prop}(h:W M a s (SQ M b Q)):W M (.seq a b) s Q:=by
 obtain⟨⟨n,e,s1,h1,⟨h2⟩⟩⟩:=h;cases e with
 | normal=>
  obtain⟨⟨m,e,s2,h3,h4⟩⟩:=h2;refine⟨⟨max n m+1,e,s2,?_,h4⟩⟩;show bw _ _ _ _ _ _=_;rw[bw,show bw M.ext M.inv M.FT (max n m) _ s=_ from ux ac h1];exact ux ac h3
 | exit i=>refine⟨⟨n+1,.exit i,s1,?_,h2⟩⟩;show bw _ _ _ _ _ _=_;rw[bw,show bw _ _ _ n a s=_ from h1]
 | ret=>refine⟨⟨n+1,.ret,s1,?_,h2⟩⟩;show bw _ _ _ _ _ _=_;rw[bw,show bw _ _ _ n a s=_ from h1]
theorem abI {id:Nat}{Q:Ex->au->Prop}(h:W M c s (BQ id Q)):W M (.block id c) s Q:=by
 obtain⟨⟨n,e,s1,h1,⟨h2⟩⟩⟩:=h;have h1':bw M.ext M.inv M.FT n c s=some (e,s1):=h1;cases e with
 | normal=>refine⟨⟨n+1,.normal,s1,?_,h2⟩⟩;show bw _ _ _ _ _ _=_;rw[bw,h1']
 | ret=>refine⟨⟨n+1,.ret,s1,?_,h2⟩⟩;show bw _ _ _ _ _ _=_;rw[bw,h1']
 | exit i=>
  simp only at h2;split at h2
  . rename_i hi;refine⟨⟨n+1,.normal,s1,?_,h2⟩⟩;show bw _ _ _ _ _ _=_;rw[bw,h1'];grind
  . rename_i hi;refine⟨⟨n+1,.exit i,s1,?_,h2⟩⟩;show bw _ _ _ _ _ _=_;rw[bw,h1'];grind
theorem W.loop {Q:Ex->au->Prop}(h:W M c s (LQ M c Q)):W M (.loop c) s Q:=by
 obtain⟨⟨n,e,s1,h1,⟨h2⟩⟩⟩:=h;have h1':bw M.ext M.inv M.FT n c s=some (e,s1):=h1;cases e with
 | normal=>
  obtain⟨⟨m,e,s2,h3,h4⟩⟩:=h2;refine⟨⟨max n m+1,e,s2,?_,h4⟩⟩;show bw _ _ _ _ _ _=_;rw[bw,show bw M.ext M.inv M.FT (max n m) _ s=_ from ux ac h1];exact ux ac h3
 | exit i=>refine⟨⟨n+1,.exit i,s1,?_,h2⟩⟩;show bw _ _ _ _ _ _=_;rw[bw,h1']
 | ret=>refine⟨⟨n+1,.ret,s1,?_,h2⟩⟩;show bw _ _ _ _ _ _=_;rw[bw,h1']
theorem W.cond {t:Bool}{a b:ao}{Q:Ex->au->Prop}(h:s.s.ah x=some (.bool t))(h1:t=true->W M a s Q)(h2:t=false->W M b s Q):W M (.cond x a b) s Q:=by
 cases t with
 | true=>
  obtain⟨⟨n,e,s',h3,h4⟩⟩:=h1 rfl;refine⟨⟨n+1,e,s',?_,h4⟩⟩;show bw _ _ _ _ _ _=_;rw[bw,h];exact h3
 | false=>
  obtain⟨⟨n,e,s',h3,h4⟩⟩:=h2 rfl;refine⟨⟨n+1,e,s',?_,h4⟩⟩;show bw _ _ _ _ _ _=_;rw[bw,h];exact h3
theorem abz {a b:ao}{Q:Ex->au->Prop}(h:s.s.ah x=some (.bool true))(h1:W M a s Q):W M (.cond x a b) s Q:=W.cond h (fun _=>h1) (fun h=>by cases h)
theorem abx {a b:ao}{Q:Ex->au->Prop}(h:s.s.ah x=some (.bool false))(h1:W M b s Q):W M (.cond x a b) s Q:=W.cond h (fun h=>by cases h) (fun _=>h1)
theorem aaf {Q:Ex->au->Prop}(h:WO M l ⟨⟨pe,[],hp,df⟩,wr⟩ (Q .normal)):W M (.region l) ⟨⟨pe,lo,hp,df⟩,wr⟩ Q:=by
 obtain⟨⟨n,s',h1,h2⟩⟩:=h;refine⟨⟨n+1,.normal,s',?_,h2⟩⟩;show bw _ _ _ _ _ _=_;rw[bw,h1]
theorem adr {l:List (aY×List Nat)}{Q:Ex->au->Prop}(h:WD M l ⟨⟨pe,[],hp,df⟩,wr⟩ [] (Q .normal)):W M (.draw l) ⟨⟨pe,lo,hp,df⟩,wr⟩ Q:=by
 obtain⟨⟨n,s',h1,h2⟩⟩:=h;refine⟨⟨n+1,.normal,s',?_,h2⟩⟩;show bw _ _ _ _ _ _=_;rw[bw,h1]
theorem aad (h:Q s):WO M [] s Q:=⟨⟨0,s,rfl,h⟩⟩
def bm.py:bm->Bool
 | .call .. | .invoke .. => false
 | _=>true
structure WP (M:ax)(s:St)(op:bm)(Q:HR->Prop):Prop where
 out:∃n r,bX (M.call n) M.inv s op=some r/\Q r
theorem WO.op {d:fj}{op:bm}{l:List aY}{s:au}{Q:au->Prop}(h:WP M s.s op fun r=>WO M l ⟨{ s.s.put d r.v with hp:=r.h },r.wr++s.wr⟩ Q):WO M (⟨d,op,none⟩::l) s Q:=by
 obtain⟨⟨n,r,h1,⟨⟨m,s',h2,h3⟩⟩⟩⟩:=h;refine⟨⟨max n m,s',?_,h3⟩⟩;simp only[fk,eZ];rw[ur (jo ac) h1];exact mf (jo ac) _ _ _ h2
theorem WO.skip {op:bm}{t want:Bool}(hx:s.s.ah x=some (.bool t))(ht:(t == want)=false)(h:WO M l ⟨s.s.put d cG,s.wr⟩ Q):WO M (⟨d,op,some (x,want)⟩::l) s Q:=by
 obtain⟨⟨n,s',h1,h2⟩⟩:=h;refine⟨⟨n,s',?_,h2⟩⟩;simp only[fk,eZ,hx,ht];exact h1
theorem WO.take {op:bm}{t want:Bool}(hx:s.s.ah x=some (.bool t))(ht:(t == want)=true)(h:WO M (⟨d,op,none⟩::l) s Q):WO M (⟨d,op,some (x,want)⟩::l) s Q:=by
 obtain⟨⟨n,s',h1,h2⟩⟩:=h;refine⟨⟨n,s',?_,h2⟩⟩;simp only[fk,eZ,hx,ht]at h1 ⊢;exact h1
theorem WO.Qt {op:bm}(hx:s.s.ah x=some (.ay [])){want:Bool}(h:WO M l ⟨s.s.put d cG,s.wr⟩ Q):WO M (⟨d,op,some (x,want)⟩::l) s Q:=by
 obtain⟨⟨n,s',h1,h2⟩⟩:=h;refine⟨⟨n,s',?_,h2⟩⟩;simp only[fk,eZ,hx];exact h1
theorem acF {op:bm}(hx:s.s.ah x=some (.bool true))(h:WO M (⟨d,op,none⟩::l) s Q):WO M (⟨d,op,some (x,true)⟩::l) s Q:=WO.take hx rfl h
theorem adb {op:bm}(hx:s.s.ah x=some (.bool false))(h:WO M (⟨d,op,none⟩::l) s Q):WO M (⟨d,op,some (x,false)⟩::l) s Q:=WO.take hx rfl h
theorem adu {op:bm}(hx:(St.mk pe lo hp df).ah x=some (.bool false))(h:WO M l ⟨⟨pe,(t,cG)::lo,hp,df⟩,wr⟩ Q):WO M (⟨.l t,op,some (x,true)⟩::l) ⟨⟨pe,lo,hp,df⟩,wr⟩ Q:=WO.skip hx rfl h
theorem adU {op:bm}(hx:(St.mk pe lo hp df).ah x=some (.bool true))(h:WO M l ⟨⟨pe,(t,cG)::lo,hp,df⟩,wr⟩ Q):WO M (⟨.l t,op,some (x,false)⟩::l) ⟨⟨pe,lo,hp,df⟩,wr⟩ Q:=WO.skip hx rfl h
theorem WP.pure {s:St}{op:bm}{Q:HR->Prop}(hh:op.bM=false)(hv:bk s op=some v)(h:Q ⟨v,s.hp,[]⟩):WP M s op Q:=by
 refine⟨⟨0,_,?_,h⟩⟩;cases op <;> first|(cases hh;done)|simp only[bX,bm.bM,hv,bj,if_false,ce]
theorem WP.heap {s:St}{op:bm}{Q:HR->Prop}(hh:op.bM=true)(hc:op.py=true)(hv:bU s op s.hp=some r)(h:Q r):WP M s op Q:=by
 refine⟨⟨0,_,?_,h⟩⟩;cases op <;> first|(cases hh;done)|(cases hc;done)|(simp only[bX,bm.bM,if_true];exact hv)
theorem WP.call {s:St}{f:aO}{args:List aO}{g:AV}{Q:HR->Prop}(hf:s.ah f=some g)(ha:s.cS args=some as)(h:WC M g as s.hp Q):WP M s (.call f args) Q:=by
 obtain⟨⟨n,r,h1,h2⟩⟩:=h;refine⟨⟨n,r,?_,h2⟩⟩;simp only[bX,hf,ha];exact h1
theorem WC.ext {f:FuncId}{fi ca:List AV}{h:ae}{Q:HR->Prop}(he:M.ext f (fi++as++ca) h=some r)(hq:Q r):WC M (.fn (.func f) fi ca) as h Q:=
 ⟨⟨0,r,by simp only[iq,he],hq⟩⟩
theorem WO.Qu {f:aO}{args:List aO}{g:FuncId}{fi ca:List AV}(hf:s.s.ah f=some (.fn (.func g) fi ca))(ha:s.s.cS args=some as)(he:M.ext g (fi++as++ca) s.s.hp=some r)
 (h:WO M l ⟨{ s.s.put d r.v with hp:=r.h },r.wr++s.wr⟩ Q):WO M (⟨d,.call f args,none⟩::l) s Q:=WO.op (WP.call hf ha (WC.ext he h))
theorem abh {op:bm}(hv:bk ⟨pe,lo,hp,df⟩ op=some v)(hh:op.bM=false)(h:WO M l ⟨⟨pe,(t,v)::lo,hp,df⟩,wr⟩ Q) :
 WO M (⟨.l t,op,none⟩::l) ⟨⟨pe,lo,hp,df⟩,wr⟩ Q:=WO.op (WP.pure hh hv h)
theorem abl {i:Nat}{op:bm}(hv:bk ⟨pe,lo,hp,df⟩ op=some v)(hh:op.bM=false)(h:WO M l ⟨⟨pe.set i v,lo,hp,df⟩,wr⟩ Q) :
 WO M (⟨.p i,op,none⟩::l) ⟨⟨pe,lo,hp,df⟩,wr⟩ Q:=WO.op (WP.pure hh hv h)
theorem WO.hl {op:bm}(hv:bU ⟨pe,lo,hp,df⟩ op hp=some r)(hh:op.bM=true)(hc:op.py=true)
 (h:WO M l ⟨⟨pe,(t,r.v)::lo,r.h,df⟩,r.wr++wr⟩ Q):WO M (⟨.l t,op,none⟩::l) ⟨⟨pe,lo,hp,df⟩,wr⟩ Q:=WO.op (WP.heap hh hc hv h)
theorem WO.hn {op:bm}(hv:bU ⟨pe,lo,hp,df⟩ op hp=some r)(hh:op.bM=true)(hc:op.py=true)
 (h:WO M l ⟨⟨pe,lo,r.h,df⟩,r.wr++wr⟩ Q):WO M (⟨.no,op,none⟩::l) ⟨⟨pe,lo,hp,df⟩,wr⟩ Q:=WO.op (WP.heap hh hc hv h)
theorem abR (hx:(St.mk pe lo hp df).ah x=some (.int k a))(hy:(St.mk pe lo hp df).ah y=some (.int k b))
 (h1:a<b->WO M l ⟨⟨pe,(t,.bool true)::lo,hp,df⟩,wr⟩ Q) (h2:b<=a->WO M l ⟨⟨pe,(t,.bool false)::lo,hp,df⟩,wr⟩ Q):WO M (⟨.l t,.bin .lss x y,none⟩::l) ⟨⟨pe,lo,hp,df⟩,wr⟩ Q:=by
 refine WO.op (WP.pure (v:=.bool (decide (a<b))) rfl (by simp[bk,hx,hy,dy]) ?_);by_cases h:a<b
 . rw[decide_eq_true h];exact h1 h
 . rw[decide_eq_false h];exact h2 ac
theorem adZ (hx:(St.mk pe lo hp df).ah x=some (.int k a))(hy:(St.mk pe lo hp df).ah y=some (.int k b))
 (h1:a<=b->WO M l ⟨⟨pe,(t,.bool true)::lo,hp,df⟩,wr⟩ Q) (h2:b<a->WO M l ⟨⟨pe,(t,.bool false)::lo,hp,df⟩,wr⟩ Q):WO M (⟨.l t,.bin .leq x y,none⟩::l) ⟨⟨pe,lo,hp,df⟩,wr⟩ Q:=by
 refine WO.op (WP.pure (v:=.bool (decide (a<=b))) rfl (by simp[bk,hx,hy,dy]) ?_);by_cases h:a<=b
 . rw[decide_eq_true h];exact h1 h
 . rw[decide_eq_false h];exact h2 ac
theorem abV (hx:(St.mk pe lo hp df).ah x=some (.int k a))(hy:(St.mk pe lo hp df).ah y=some (.int k b))
 (h1:b<a->WO M l ⟨⟨pe,(t,.bool true)::lo,hp,df⟩,wr⟩ Q) (h2:a<=b->WO M l ⟨⟨pe,(t,.bool false)::lo,hp,df⟩,wr⟩ Q):WO M (⟨.l t,.bin .gtr x y,none⟩::l) ⟨⟨pe,lo,hp,df⟩,wr⟩ Q:=by
 refine WO.op (WP.pure (v:=.bool (decide (a > b))) rfl (by simp[bk,hx,hy,dy]) ?_);by_cases h:b<a
 . rw[decide_eq_true h];exact h1 h
 . rw[decide_eq_false h];exact h2 ac
theorem adK (hx:(St.mk pe lo hp df).ah x=some (.int k a))(hy:(St.mk pe lo hp df).ah y=some (.int k b))
 (h1:b<=a->WO M l ⟨⟨pe,(t,.bool true)::lo,hp,df⟩,wr⟩ Q) (h2:a<b->WO M l ⟨⟨pe,(t,.bool false)::lo,hp,df⟩,wr⟩ Q):WO M (⟨.l t,.bin .geq x y,none⟩::l) ⟨⟨pe,lo,hp,df⟩,wr⟩ Q:=by
 refine WO.op (WP.pure (v:=.bool (decide (a>=b))) rfl (by simp[bk,hx,hy,dy]) ?_);by_cases h:b<=a
 . rw[decide_eq_true h];exact h1 h
 . rw[decide_eq_false h];exact h2 ac
theorem acR (hx:(St.mk pe lo hp df).ah x=some (.int k a))(hy:(St.mk pe lo hp df).ah y=some (.int k b))
 (h1:a=b->WO M l ⟨⟨pe,(t,.bool true)::lo,hp,df⟩,wr⟩ Q) (h2:a≠b->WO M l ⟨⟨pe,(t,.bool false)::lo,hp,df⟩,wr⟩ Q):WO M (⟨.l t,.bin .eql x y,none⟩::l) ⟨⟨pe,lo,hp,df⟩,wr⟩ Q:=by
 refine WO.op (WP.pure (v:=.bool (a == b)) rfl (by simp[bk,hx,hy,dy]) ?_);by_cases h:a=b
 . rw[beq_iff_eq.2 h];exact h1 h
 . rw[beq_eq_false_iff_ne.2 h];exact h2 h
theorem adf (hx:(St.mk pe lo hp df).ah x=some (.int k a))(hy:(St.mk pe lo hp df).ah y=some (.int k b))
 (h1:a≠b->WO M l ⟨⟨pe,(t,.bool true)::lo,hp,df⟩,wr⟩ Q) (h2:a=b->WO M l ⟨⟨pe,(t,.bool false)::lo,hp,df⟩,wr⟩ Q):WO M (⟨.l t,.bin .neq x y,none⟩::l) ⟨⟨pe,lo,hp,df⟩,wr⟩ Q:=by
 refine WO.op (WP.pure (v:=.bool (a != b)) rfl (by simp[bk,hx,hy,dy]) ?_);by_cases h:a=b
 . rw[bne_eq_false_iff_eq.2 h];exact h2 h
 . rw[bne_iff_ne.2 h];exact h1 h
theorem adV {a b:List UInt8}(hx:(St.mk pe lo hp df).ah x=some (.str a))(hy:(St.mk pe lo hp df).ah y=some (.str b))
 (h1:a=b->WO M l ⟨⟨pe,(t,.bool true)::lo,hp,df⟩,wr⟩ Q) (h2:a≠b->WO M l ⟨⟨pe,(t,.bool false)::lo,hp,df⟩,wr⟩ Q):WO M (⟨.l t,.bin .eql x y,none⟩::l) ⟨⟨pe,lo,hp,df⟩,wr⟩ Q:=by
 refine WO.op (WP.pure (v:=.bool (a == b)) rfl (by simp[bk,hx,hy,dy]) ?_);by_cases h:a=b
 . rw[beq_iff_eq.2 h];exact h1 h
 . rw[beq_eq_false_iff_ne.2 h];exact h2 h
theorem aek {a b:List UInt8}(hx:(St.mk pe lo hp df).ah x=some (.str a))(hy:(St.mk pe lo hp df).ah y=some (.str b))
 (h1:a≠b->WO M l ⟨⟨pe,(t,.bool true)::lo,hp,df⟩,wr⟩ Q) (h2:a=b->WO M l ⟨⟨pe,(t,.bool false)::lo,hp,df⟩,wr⟩ Q):WO M (⟨.l t,.bin .neq x y,none⟩::l) ⟨⟨pe,lo,hp,df⟩,wr⟩ Q:=by
 refine WO.op (WP.pure (v:=.bool !(a == b)) rfl (by simp[bk,hx,hy,dy]) ?_);by_cases h:a=b
 . rw[beq_iff_eq.2 h];exact h2 h
 . rw[beq_eq_false_iff_ne.2 h];exact h1 h
theorem nt (h : -9223372036854775808<=n/\n<9223372036854775808):IntKind.i64.wrap n=n:=IntWalk.i64_in _ ac
theorem acS (hx:(St.mk pe lo hp df).ah x=some (.int .i64 a))(hy:(St.mk pe lo hp df).ah y=some (.int .i64 b))
 (hr : -9223372036854775808<=a+b/\a+b<9223372036854775808) (h:WO M l ⟨⟨pe,(t,.int .i64 (a+b))::lo,hp,df⟩,wr⟩ Q):WO M (⟨.l t,.bin .add x y,none⟩::l) ⟨⟨pe,lo,hp,df⟩,wr⟩ Q:=
 WO.op (WP.pure (v:=.int .i64 (a+b)) rfl (by simp[bk,hx,hy,dy,nt hr]) h)
theorem adj (hx:(St.mk pe lo hp df).ah x=some (.int .i64 a))(hy:(St.mk pe lo hp df).ah y=some (.int .i64 b))
 (hr : -9223372036854775808<=a-b/\a-b<9223372036854775808) (h:WO M l ⟨⟨pe,(t,.int .i64 (a-b))::lo,hp,df⟩,wr⟩ Q):WO M (⟨.l t,.bin .sub x y,none⟩::l) ⟨⟨pe,lo,hp,df⟩,wr⟩ Q:=
 WO.op (WP.pure (v:=.int .i64 (a-b)) rfl (by simp[bk,hx,hy,dy,nt hr]) h)
theorem ael (hx:(St.mk pe lo hp df).ah x=some (.int .i64 a))(hy:(St.mk pe lo hp df).ah y=some (.int .i64 b))
 (hr : -9223372036854775808<=a*b/\a*b<9223372036854775808) (h:WO M l ⟨⟨pe,(t,.int .i64 (a*b))::lo,hp,df⟩,wr⟩ Q):WO M (⟨.l t,.bin .mul x y,none⟩::l) ⟨⟨pe,lo,hp,df⟩,wr⟩ Q:=
 WO.op (WP.pure (v:=.int .i64 (a*b)) rfl (by simp[bk,hx,hy,dy,nt hr]) h)
theorem aey (hx:(St.mk pe lo hp df).ah x=some (.int .i64 a))(hy:(St.mk pe lo hp df).ah y=some (.int .i64 b))
 (hb:0<b) (hr : -9223372036854775808<=a/\a<9223372036854775808) (h:WO M l ⟨⟨pe,(t,.int .i64 (a.tdiv b))::lo,hp,df⟩,wr⟩ Q):WO M (⟨.l t,.bin .quo x y,none⟩::l) ⟨⟨pe,lo,hp,df⟩,wr⟩ Q:=by
 have hb':b≠0:=by omega
 have h1:(a.tdiv b).natAbs<=a.natAbs:=by rw[Int.natAbs_tdiv];exact Nat.div_le_self _ _
 have h2 : -9223372036854775808<=a.tdiv b/\a.tdiv b<9223372036854775808:=by
  rcases Int.le_total 0 a with h0|h0
  . omega
  . have:a.tdiv b<=0:=by
     have:=Int.tdiv_nonneg (a:=-a) (b:=b) ac ac;rw[Int.neg_tdiv]at this;omega
    omega
 exact WO.op (WP.pure (v:=.int .i64 (a.tdiv b)) rfl (by simp[bk,hx,hy,dy,hb',nt h2]) h)
theorem aez (hx:(St.mk pe lo hp df).ah x=some (.int k a))(hy:(St.mk pe lo hp df).ah y=some (.int k b))
 (hb:b≠0) (h:WO M l ⟨⟨pe,(t,.int k (a.tmod b))::lo,hp,df⟩,wr⟩ Q):WO M (⟨.l t,.bin .rem x y,none⟩::l) ⟨⟨pe,lo,hp,df⟩,wr⟩ Q:=
 WO.op (WP.pure (v:=.int k (a.tmod b)) rfl (by simp[bk,hx,hy,dy,hb]) h)
theorem adp {esz:Nat}{c:List AV}{len:Nat}{cap:Option Nat}(hx:(St.mk pe lo hp df).ah x=some (.vs c len cap))(hy:(St.mk pe lo hp df).ah i=some (.int k n))
 (hb:0<=n/\n<len) (h:WO M l ⟨⟨pe,(t,.vp (c.drop (n.toNat*esz)))::lo,hp,df⟩,wr⟩ Q):WO M (⟨.l t,.eL none esz x i,none⟩::l) ⟨⟨pe,lo,hp,df⟩,wr⟩ Q:=
 WO.op (WP.pure (v:=.vp (c.drop (n.toNat*esz))) rfl (by simp[bk,hx,hy,oM,hb]) h)
theorem adP {esz b o len:Nat}{cap:Option Nat}(hx:(St.mk pe lo hp df).ah x=some (.sl b o len esz cap))(hy:(St.mk pe lo hp df).ah i=some (.int k n))
 (hb:0<=n/\n<len) (h:WO M l ⟨⟨pe,(t,.ptr b (o+n.toNat*esz))::lo,hp,df⟩,wr⟩ Q):WO M (⟨.l t,.eL none esz x i,none⟩::l) ⟨⟨pe,lo,hp,df⟩,wr⟩ Q:=
 WO.op (WP.pure (v:=.ptr b (o+n.toNat*esz)) rfl (by simp[bk,hx,hy,oM,hb]) h)
theorem adT {s:List UInt8}(hx:(St.mk pe lo hp df).ah x=some (.str s))(hy:(St.mk pe lo hp df).ah i=some (.int k n))
 (hb:0<=n/\n<s.length) (h:WO M l ⟨⟨pe,(t,.int .u8 (s[n.toNat]!).toNat)::lo,hp,df⟩,wr⟩ Q):WO M (⟨.l t,.index x i,none⟩::l) ⟨⟨pe,lo,hp,df⟩,wr⟩ Q:=by
 have h1:n.toNat<s.length:=by omega
 refine WO.op (WP.pure (v:=.int .u8 (s[n.toNat]!).toNat) rfl ?_ h);simp[bk,hx,hy,tz,hb.1,h1]
theorem aa {b:ao}{s:au}{Q}(h:W M b s Q):SQ M b Q .normal s:=⟨h⟩
theorem bN {b:ao}{s:au}{Q}{i:Nat}(h:Q (.exit i) s):SQ M b Q (.exit i) s:=⟨h⟩
theorem aU {b:ao}{s:au}{Q}(h:Q .ret s):SQ M b Q .ret s:=⟨h⟩
theorem bE {b:Nat}{s:au}{Q}(h:Q .normal s):BQ b Q .normal s:=⟨h⟩
theorem cQ {b:Nat}{s:au}{Q}(h:Q .ret s):BQ b Q .ret s:=⟨h⟩
theorem bJ {b:Nat}{s:au}{Q}(h:Q .normal s):BQ b Q (.exit b) s:=⟨aw⟩
theorem nu {b i:Nat}{s:au}{Q}(hn:dh i b=false)(h:Q (.exit i) s):BQ b Q (.exit i) s:=
 ⟨by simp only;rw[if_neg (fun e=>by simp_all)];exact h⟩
theorem gk {b:ao}{s:au}{Q}(h:W M (.loop b) s Q):LQ M b Q .normal s:=⟨h⟩
theorem dP {b:ao}{s:au}{Q}{i:Nat}(h:Q (.exit i) s):LQ M b Q (.exit i) s:=⟨h⟩
theorem jJ {b:ao}{s:au}{Q}(h:Q .ret s):LQ M b Q .ret s:=⟨h⟩
theorem bY {f N:Nat}{aP:List Nat}{res:List fw}{body:ao}{hh:ae}(hft:M.FT f=some ⟨N,aP,res,body⟩)(hN:as.length<=N)
 (h:W M body ⟨⟨aP.map (fun t=>(as[t]?).getD cG),[],[],[]⟩,[]⟩ fun e s=>(e = .normal\/e = .ret)/\s.s.cg=[]/\∃vs,dH s.s res=some vs/\aV vs=v/\(if v.top<=0 then [] else s.s.hp)=hh):bg M f as [] ⟨v,hh,[]⟩:=by
 obtain⟨⟨n,e,s,h1,h2,h3,vs,h4,h5,h6⟩⟩:=h;refine⟨n,?_⟩;have h1':bw M.ext M.inv M.FT n body ⟨⟨aP.map (fun t=>(as[t]?).getD cG),[],[],[]⟩,[]⟩=some (e,s):=h1;simp only[gQ,hft];rw[if_neg ac];simp only[ax.ev,h1',if_pos h2,h3,kD,h4];subst h5;subst h6;have ht:tight s.s.hp 0 s.wr=true:=by
  simp only[tight,c5];intro b _;split <;> simp
 have hf:s.wr.filter (fun b=>decide (b<0))=[]:=by simp
 simp only[fW,fF,ht,fg,hf,List.take_zero,decide_eq_true_eq]<;>grind
end Go.Ab
namespace Go.Ab
variable {FT:FuncId->Option cU} {h:ae} {S:List Nat}
variable {P:Program} {gl:Nat->Option AV}
abbrev Spec:=List AV->ae->Option HR
def bB:List (Nat×Spec)->FuncId->List AV->ae->Option HR
 | [],_,_,_=>none
 | (g,sp)::T,f,as,h=>if dh g f then sp as h else bB T f as h
def ba (P:Program)(gl:Nat->Option AV)(f:Nat)(sp:Spec):Prop:=∀as h r,sp as h=some r->bl P gl ⟨f,as,h,r⟩
theorem bP:cB P gl (bB []):=fun _ _ _ _ h=>by cases h
theorem aT {f:Nat}{sp:Spec}{T:List (Nat×Spec)}(h:ba P gl f sp)(hT:cB P gl (bB T)):cB P gl (bB ((f,sp)::T)):=by
 intro g all hp r hq;simp only[bB]at hq;split at hq
 . rename_i e;have e':=gc e;subst e';exact h _ _ _ hq
 . exact hT g all hp r hq
def nw (k:XK):Spec:=fun as h=>(k.run as).map fun v=>⟨v,h,[]⟩
theorem Ah {f:Nat}{k:XK}(h:nf P f k):ba P gl f (nw k):=by
 intro as hp r hq;have:=Ae (P:=P) (gl:=gl) (L:=[(f,k)]) aw f as hp r;simp only[nh,Nat.beq_refl,if_true]at this;simp only[nw,be]at hq;obtain⟨v,hv,rfl⟩:=hq;exact this aw
def Ai (as0:List AV)(v:AV):Spec:=fun as h=>if uh as as0 then some ⟨v,h,[]⟩ else none
theorem Qv (hgl:∀g v,gl g=some v->v.top=0){f:Nat}{as0:List AV}{v:AV}(hv:v.top=0)(htop:bz as0=0)(hloc:bl P gl ⟨f,as0,[],⟨v,[],[]⟩⟩):ba P gl f (Ai as0 v):=by
 intro as h r hq;simp only[Ai]at hq;split at hq
 . rename_i e;have e':=GK e;subst e';cases hq;have:=GX (h:=h) (S:=[]) (ks:=[]) (bs:=[]) hgl (as:=as) ⟨rfl,fun i x y hx hy=>by rw[hx]at hy;cases hy;exact .same (by have:=fx (n:=0) ac i x hx;omega)⟩ aq (.same hv) rfl aq (.inl rfl) hloc<;>grind
 grind
structure jK (P:Program)(gl:Nat->Option AV)(FT:FuncId->Option cU):Prop where
 mix:P.follows .mixedOrders=true
 ft:lZ P gl FT
 gl:∀g v,gl g=some v->v.top=0
abbrev bx (P:Program)(FT:FuncId->Option cU)(T:List (Nat×Spec)):ax:=⟨bB T,fl P,FT⟩
theorem rm (hs:jK P gl FT){T:List (Nat×Spec)}(hT:cB P gl (bB T)){f:Nat}{as:List AV}{h:ae}{r:HR}(hr:bg (bx P FT T) f as h r)(hw:fD h r):bl P gl ⟨f,as,h,r⟩:=by
 obtain⟨n,hn⟩:=hr;refine⟨hw,fun ρ w as' m hv=>?_⟩;obtain⟨h1,h2⟩:=ud (Ad hs.mix hT hs.ft n) hs.ft hn m hv;refine⟨_,_,h1,?_⟩;refine CallsIn.mono h2 fun e w' he=>?_<;>grind
theorem Qw (hs:jK P gl FT){T:List (Nat×Spec)}(hT:cB P gl (bB T)){f:Nat}{as as0:List AV}{h:ae}{S ks:List Nat}{v v1:AV}{hh:ae}{bs:List bR}(hr:bg (bx P FT T) f as0 [] ⟨v,hh,[]⟩)
 (hv:gE h S as as0) (hnd:ks.Nodup) (hv1:Rn ks h.length v v1) (hlen:ks.length=bs.length)
 (hbs:∀(i b:Nat) o1,ks[i]? = some b->bs[i]? = some o1->∃o,hh.at b=some o/\rp ks h.length o o1/\(S=[]\/uw o=true)) (hn:S=[]\/dI v=true):bl P gl ⟨f,as,h,⟨v1,h++bs.map some,[]⟩⟩:=
 GX hs.gl hv hnd hv1 hlen hbs hn (rm hs hT hr ⟨ib _,fun _ hb=>aw⟩)
theorem uy (hs:jK P gl FT){T:List (Nat×Spec)}(hT:cB P gl (bB T)){f:Nat}{as as0:List AV}{h hh:ae}{S:List Nat}{v:AV}(hr:bg (bx P FT T) f as0 [] ⟨v,hh,[]⟩)
 (hv:gE h S as as0) (ht:v.top=0) (hn:S=[]\/dI v=true):bl P gl ⟨f,as,h,⟨v,h,[]⟩⟩:=by
 have:=Qw hs hT (ks:=[]) (bs:=[]) hr hv aq (.same ht) rfl aq hn<;>grind
theorem gE.nil:gE h S [] []:=⟨rfl,aq⟩
theorem gE.cons {x y:AV}{l m:List AV}(h1:Fr h S x y)(h2:gE h S l m):gE h S (x::l) (y::m):=by
 refine⟨by simp[h2.1],fun i a b ha hb=>?_⟩;cases i with
 | zero=>grind
 | succ i=>simp at ha hb;exact h2.2 i a b ha hb
theorem gE.same {l:List AV}(ht:bz l=0):gE h S l l:=
 ⟨rfl,fun i x y hx hy=>by rw[hx]at hy;cases hy;exact .same (by have:=fx (n:=0) ac i x hx;omega)⟩
def arr {α:Type}(f:α->List AV)(l:List α):List AV:=l.flatMap f
def ints (l:List Int):List AV:=arr (fun x=>[.int .i64 x]) l
theorem Qx {a b:List AV}:fE (a++b)=(fE a && fE b):=by
 induction a with
 | nil=>rfl
 | cons x a ih=>simp only[gT,fE,ih,Bool.and_assoc]
theorem pz {α:Type}{f:α->List AV}(hf:∀a,fE (f a)=true):∀l:List α,fE (arr f l)=true
 | []=>rfl
 | a::l=>by
  have:=pz hf l;simp only[arr,i6,Qx,hf]at this ⊢;simpa using this
def Sl {α:Type}(f:α->List AV)(h:ae)(v:AV)(l:List α):Prop:=
 (v = .ab/\l=[])\/(∃cap,v = .vs (arr f l) l.length cap)\/(∃b off esz cap c e,v = .sl b off l.length esz cap/\h.at b=some (.cells c e)/\cut c off (l.length*esz)=some (arr f l))
theorem Qy {a b:List AV}:bz (a++b)=max (bz a) (bz b):=by
 induction a with
 | nil=>rfl
 | cons x a ih=>simp only[gT,bz,ih];omega
theorem jL {α:Type}{f:α->List AV}(hf:∀a,bz (f a)=0):∀l:List α,bz (arr f l)=0
 | []=>rfl
 | a::l=>by
  have:=jL hf l;simp only[arr,i6,Qy,hf]at this ⊢;omega
theorem Sl.fr {α:Type}{f:α->List AV}(hf:∀a,bz (f a)=0){h:ae}{v:AV}{l:List α}(hs:Sl f h v l):∃S cap,Fr h S v (.vs (arr f l) l.length cap):=by
 rcases hs with ⟨rfl,rfl⟩|⟨cap,rfl⟩|⟨b,off,esz,cap,c,e,rfl,h1,h2⟩
 . exact⟨[],none,.nil aq⟩
 . exact⟨[],cap,.same (by simp only[AV.top];exact jL hf l)⟩
 . refine⟨[b],cap,.sl aq h1 h2 rfl fun i x y hx hy=>?_⟩;rw[hx]at hy;cases hy;exact .same (by have:=fx (n:=0) (Nat.le_of_eq (jL hf l)) i x hx;omega)
end Go.Ab
namespace Go.Ab
variable {t i n b:Nat} {l:List aY} {pe:List AV} {lo:List (Nat×AV)} {hp h' h:ae} {df wr w':List Nat} {v a:AV} {Q:au->Prop} {op:bm} {ag:Bool} {x:aO} {o:Option bR}
variable {M:ax}
theorem aco {c a b:aO}(hc:(St.mk pe lo hp df).ah c=some (.bool true))(ha:(St.mk pe lo hp df).ah a=some v)
 (h:WO M l ⟨⟨pe,(t,v)::lo,hp,df⟩,wr⟩ Q):WO M (⟨.l t,.pick c a b,none⟩::l) ⟨⟨pe,lo,hp,df⟩,wr⟩ Q:=
 WO.op (WP.pure (v:=v) rfl (by simp only[bk,hc,ha];cases (St.mk pe lo hp df).ah b <;> simp) h)
theorem acw {c a b:aO}(hc:(St.mk pe lo hp df).ah c=some (.bool false))(hb:(St.mk pe lo hp df).ah b=some v)
 (h:WO M l ⟨⟨pe,(t,v)::lo,hp,df⟩,wr⟩ Q):WO M (⟨.l t,.pick c a b,none⟩::l) ⟨⟨pe,lo,hp,df⟩,wr⟩ Q:=
 WO.op (WP.pure (v:=v) rfl (by simp only[bk,hc,hb];cases (St.mk pe lo hp df).ah a <;> simp) h)
theorem acn (hv:bU ⟨pe,lo,hp,df⟩ op hp=some ⟨v,h',w'⟩)(hh:op.bM=true)(hc:op.py=true)
 (h:WO M l ⟨⟨pe,(t,v)::lo,h',df⟩,w'++wr⟩ Q):WO M (⟨.l t,op,none⟩::l) ⟨⟨pe,lo,hp,df⟩,wr⟩ Q:=WO.op (WP.heap hh hc hv h)
theorem abU (hv:bU ⟨pe,lo,hp,df⟩ op hp=some ⟨v,h',w'⟩)(hh:op.bM=true)(hc:op.py=true)
 (h:WO M l ⟨⟨pe.set i v,lo,h',df⟩,w'++wr⟩ Q):WO M (⟨.p i,op,none⟩::l) ⟨⟨pe,lo,hp,df⟩,wr⟩ Q:=WO.op (WP.heap hh hc hv h)
theorem aea (hv:bU ⟨pe,lo,hp,df⟩ op hp=some ⟨v,h',w'⟩)(hh:op.bM=true)(hc:op.py=true)
 (h:WO M l ⟨⟨pe,lo,h',df⟩,w'++wr⟩ Q):WO M (⟨.no,op,none⟩::l) ⟨⟨pe,lo,hp,df⟩,wr⟩ Q:=WO.op (WP.heap hh hc hv h)
theorem kN {α:Type}{f:α->List AV}(a:α)(l:List α):arr f (a::l)=f a++arr f l:=rfl
theorem Qz {α:Type}{f:α->List AV}(l m:List α):arr f (l++m)=arr f l++arr f m:=by simp[arr]
section
variable {α:Type} {f:α->List AV} {esz:Nat}
theorem pA (hf:∀a,(f a).length=esz):∀l:List α,(arr f l).length=l.length*esz
 | []=>by simp[arr]
 | a::l=>by rw[kN,c6,hf,pA hf l,d9,m9];omega
theorem Aj (hf:∀a,(f a).length=esz):∀(l:List α) (i:Nat),(arr f l).drop (i*esz)=arr f (l.drop i)
 | [],i=>by simp[arr]
 | a::l,0=>by simp
 | a::l,i+1=>by
  rw[kN,List.drop_append,show (i+1)*esz=esz+i*esz from by grind,hf,i8,Aj hf l i,List.drop_succ_cons,List.drop_eq_nil_of_le aw];rfl
theorem Ak (hf:∀a,(f a).length=esz):∀(l:List α) (i:Nat),(arr f l).take (i*esz)=arr f (l.take i)
 | [],i=>by simp[arr]
 | a::l,0=>by simp[arr]
 | a::l,i+1=>by
  rw[kN,List.take_append,show (i+1)*esz=esz+i*esz from by grind,hf,i8,Ak hf l i,List.take_succ_cons,f6 aw];rfl
theorem kO (hf:∀a,(f a).length=esz){l:List α}{i n:Nat}(h:i+n<=l.length):cut (arr f l) (i*esz) (n*esz)=some (arr f ((l.drop i).take n)):=by
 simp only[cut,Aj hf,Ak hf,pA hf]<;>grind
theorem QA [ia:Inhabited α](hf:∀a,(f a).length=esz){l:List α}{i:Nat}(h:i<l.length):∃r,(arr f l).drop (i*esz)=f l[i]! ++ r:=by
 refine⟨arr f (l.drop (i+1)),?_⟩;grind[Aj,i5,kN]
theorem QB {a r:List AV}{j:Nat}(h:j+n<=a.length)(hn:ag=true\/0<n):partOf (a++r) j n ag=partOf a j n ag:=by
 cases ag with
 | true => 
   simp only[partOf,if_true,cut]<;>grind
 | false=>
  simp only[partOf,bj,if_false]<;>grind
theorem GY {a:List AV}{j:Nat}:partOf (a.drop j) 0 n ag=partOf a j n ag:=by
 cases ag <;> simp[partOf,cut]
theorem GZ [ia:Inhabited α](hf:∀a,(f a).length=esz){l:List α}{i j n:Nat}{ag:Bool}(h:i<l.length)(hj:j+n<=esz)(hn:0<n):partOf ((arr f l).drop (i*esz)) j n ag=partOf (f l[i]!) j n ag:=by
 obtain⟨r,hr⟩:=QA hf h;grind[QB]
theorem Ha (a:α):∀n:Nat,gP (f a) n=arr f (d6 n a)
 | 0=>rfl
 | n+1=>by rw[gP,Ha a n,kM,kN]
end
variable {α:Type} {ia:Inhabited α} {f:α->List AV} {esz:Nat}
theorem adL {c:List α}(hx:(St.mk pe lo hp df).ah x=some (.vp ((arr f c).drop (i*esz))))
 (hf:∀a,(f a).length=esz) (hi:i<c.length) (hn:0<n/\0+n<=esz) (hv:partOf (f c[i]!) 0 n ag=some v) (h:WO M l ⟨⟨pe,(t,v)::lo,hp,df⟩,wr⟩ Q):WO M (⟨.l t,.load n ag x,none⟩::l) ⟨⟨pe,lo,hp,df⟩,wr⟩ Q:=
 acn (v:=v) (h':=hp) (w':=[]) (by simp only[bU,hx,b6,fV,GZ hf hi hn.2 hn.1,hv]) rfl rfl h
theorem aeY {c:List α}{e:TypeId}(hx:(St.mk pe lo hp df).ah x=some (.ptr b (0+i*esz)))(hb:hp.at b=some (.cells (arr f c) e))
 (hf:∀a,(f a).length=esz) (hi:i<c.length) (hn:0<n/\0+n<=esz) (hv:partOf (f c[i]!) 0 n ag=some v) (h:WO M l ⟨⟨pe,(t,v)::lo,hp,df⟩,wr⟩ Q):WO M (⟨.l t,.load n ag x,none⟩::l) ⟨⟨pe,lo,hp,df⟩,wr⟩ Q:=
 acn (v:=v) (h':=hp) (w':=[]) (by simp only[bU,hx,b6,fV,hb,ii,GZ hf hi hn.2 hn.1,hv]) rfl rfl h
theorem aet {c:List AV}(hx:(St.mk pe lo hp df).ah x=some a)(hb:fV hp a=some c)(hv:partOf c 0 n ag=some v)
 (h:WO M l ⟨⟨pe,(t,v)::lo,hp,df⟩,wr⟩ Q):WO M (⟨.l t,.load n ag x,none⟩::l) ⟨⟨pe,lo,hp,df⟩,wr⟩ Q:=
 acn (v:=v) (h':=hp) (w':=[]) (by simp only[bU,hx,b6,hb,hv]) rfl rfl h
theorem WO.QC {esz0 bytes:Nat}{elem:TypeId}{zero:List AV}{y:aO}{k k':IntKind}{a b:Int}(hx:(St.mk pe lo hp df).ah x=some (.int k a))(hy:(St.mk pe lo hp df).ah y=some (.int k' b))
 (hc:0<=a/\a<=b/\b.toNat*bytes<=dO/\b<=2^46/\zero.length=esz0) (h:WO M l ⟨⟨pe,(t,.sl hp.length 0 a.toNat esz0 (some b.toNat))::lo,hp++[some (.cells (gP zero b.toNat) elem)],df⟩,wr⟩ Q) :
 WO M (⟨.l t,.gM elem esz0 bytes zero x y,none⟩::l) ⟨⟨pe,lo,hp,df⟩,wr⟩ Q:=
 acn (v:=.sl hp.length 0 a.toNat esz0 (some b.toNat)) (h':=hp++[some (.cells (gP zero b.toNat) elem)]) (w':=[]) (by simp only[bU,hx,hy,b6,qM];grind) rfl rfl h
theorem gG {o:bR}(hb:h.at b=some o):b<h.length:=by
 unfold ae.at at hb;grind
theorem bS {x:Option bR}:ae.at (h++[x]) h.length=x:=by simp[ae.at]
theorem cm {l:ae}{o:bR}(hb:h.at b=some o):ae.at (h++l) b=some o:=by
 have:=gG hb;simp only[ae.at]at hb ⊢<;>grind
theorem cJ (hb:b<h.length):ae.at (h.put b o) b=o:=by
 simp[ae.at,ae.put,hb]
theorem Al {a:Nat}{x:bR}(hn:a≠b)(ha:h.at a=some x):ae.at (h.put b o) a=some x:=by
 have:¬b=a:=ac;simp only[ae.at,ae.put,cN,if_neg this]at ha ⊢;exact ha
theorem ny:(h.put b o).length=h.length:=by simp[ae.put]
def bm.ro:bm->Bool
 | .load .. => true
 | op=>!op.bM
def ck.clean (d:ck):Prop:=d.wr=[]/\d.hi=d.lo
theorem Hc {T:List Nat}:ae.at (eu T h 0) b=if T.contains b then h.at b else none:=by
 unfold ae.at;grind[nc]
theorem Hd {T:List Nat}:fA [] h (eu T h 0) 0=h:=by
 apply cV;intro b;rw[jH _ _ _ _ _ (by rw[gh];simp)];grind[f8,gh]
def jM:Option AV->List Nat
 | some (.ptr b _)=>[b]
 | some (.sl b _ _ _ _)=>[b]
 | some (.map b)=>[b]
 | _=>[]
theorem He {s:St}:lE s (.load n ag x)=some (jM (s.ah x)):=by
 rfl
theorem Hf:fV (eu (jM (some a)) h 0) a=fV h a:=by
 cases a <;> first|rfl|skip
 simp[fV,jM,Hc]
theorem uz {call:ee}{inv:eW}{s:St}(ha:s.ah x=some a)(hp':ae):bX call inv { s with hp:=hp' } (.load n ag x)=(fV hp' a).bind fun l=>(partOf l 0 n ag).map fun v=>⟨v,hp',[]⟩:=by
 have hx':St.ah { s with hp:=hp' } x=some a:=by rw[←ha];cases x <;> rfl
 simp only[bX,bm.bM,if_true,bU,hx',b6]<;>grind
theorem uA {call:ee}{inv:eW}:∀(l:List (aY×List Nat)) (s:au) (ds:List ck),l.all (fun p=>p.1.op.ro)=true->(∀d∈ds,d.clean)->dS call inv l s ds=fk call inv (l.map (·.1)) s
 | [],s,ds,_,_=>rfl
 | (o,un)::l,s,ds,hl,hd=>by
  simp only[n5,aZ]at hl;obtain⟨ho,hl⟩:=hl;have hcl:∀t,(∀d∈ds++[(⟨t,[],s.s.hp.length,s.s.hp.length⟩:ck)],d.clean):=fun t d hm=>by
   rcases c7.1 hm with h1|h1
   . grind
   . simp only[iB]at h1;subst h1;exact⟨rfl,rfl⟩
  simp only[dS,List.map_cons,fk];split
  . by_cases hh:o.op.bM=true
    . have hop:∃n ag x,o.op = .load n ag x:=by
       cases hq:o.op <;> rw[hq]at ho hh <;> first|(cases hh;done)|(cases ho;done)|simp
      obtain⟨n,ag,x,hop⟩:=hop;have hU:un.flatMap (fun j=>(ds[j]?).elim [] ck.own)=[]:=by
       rw[List.flatMap_eq_nil_iff];intro j _;cases hj:ds[j]? with
       | none=>rfl
       | some d=>
        obtain⟨c1,c2⟩:=hd d aw;simp[ck.own,c1,c2]
      simp only[hop,bm.bM,if_true,He,hU];have hdis:∀T,iP T []=true:=fun T=>by simp[iP]
      simp only[hdis,if_true];cases ha:s.s.ah x with
      | none=>
       have e1:∀hp',bX call inv { s.s with hp:=hp' } (.load n ag x)=none:=fun hp'=>by
        have hx':St.ah { s.s with hp:=hp' } x=none:=by rw[←ha];cases x <;> rfl
        simp only[bX,bm.bM,if_true,bU,hx',Option.bind_none]
       simp_all
      | some a=>
       have e2:=uz (call:=call) (inv:=inv) (n:=n) (ag:=ag) ha s.s.hp;rw[uz ha,Hf,show bX call inv s.s (.load n ag x)=_ from e2];cases fV s.s.hp a with
       | none=>rfl
       | some c=>
        simp only[b6];cases partOf c 0 n ag with
        | none=>rfl
        | some v=>
         simp only[ce,ip,i9,mn,fg,if_true,Hd,dF];have:=uA (call:=call) (inv:=inv) l ⟨{ s.s.put o.dst v with hp:=s.s.hp },s.wr⟩ (ds++[⟨some (jM (some a)),[],s.s.hp.length,s.s.hp.length⟩]) hl (hcl _);rw[←this];simp[gh]
    . have hh':o.op.bM=false:=by simpa using hh
      rw[if_neg hh];have e2:bX call inv s.s o.op=(bk s.s o.op).map fun v=>⟨v,s.s.hp,[]⟩:=by
       cases hq:o.op <;> rw[hq]at hh' <;> first|(cases hh';done)|simp only[bX,bm.bM,bj,if_false]
      rw[e2];cases bk s.s o.op with
      | none=>rfl
      | some v=>
       simp only[ce,dF];have hput:({ s.s.put o.dst v with hp:=s.s.hp }:St)=s.s.put o.dst v:=by cases o.dst <;> rfl
       rw[hput];exact uA l _ _ hl (hcl _)
  . exact uA l _ _ hl (hcl _)
  . rfl
theorem adX {l:List (aY×List Nat)}{Q:Ex->au->Prop}(hl:l.all (fun p=>p.1.op.ro)=true)(h:WO M (l.map (·.1)) ⟨⟨pe,[],hp,df⟩,wr⟩ (Q .normal)):W M (.draw l) ⟨⟨pe,lo,hp,df⟩,wr⟩ Q:=by
 obtain⟨⟨n,s',h1,h2⟩⟩:=h;exact adr ⟨⟨n,s',by grind[uA],h2⟩⟩
end Go.Ab
namespace Go.Ab
variable {t n:Nat} {x y:aO} {l:List (aY×List Nat)} {pe:List AV} {lo:List (Nat×AV)} {hp:ae} {df wr un T:List Nat} {a b:Int} {Q:au->Prop} {s:au} {ds:List ck} {d:fj}
variable {M:ax}
theorem afi {l:List aY}(hx:(St.mk pe lo hp df).ah x=some (.int .i64 a))(hy:(St.mk pe lo hp df).ah y=some (.int .i64 b))
 (ha:0<=a/\0<b) (hr:a<9223372036854775808) (h:0<=a/b->a/b<=a->WO M l ⟨⟨pe,(t,.int .i64 (a/b))::lo,hp,df⟩,wr⟩ Q):WO M (⟨.l t,.bin .quo x y,none⟩::l) ⟨⟨pe,lo,hp,df⟩,wr⟩ Q:=by
 refine aey hx hy ha.2 ⟨ac,hr⟩ ?_;rw[Int.tdiv_eq_ediv_of_nonneg ha.1];exact h (Int.ediv_nonneg ha.1 ac) (Int.ediv_le_self _ ha.1)
theorem afj {l:List aY}{k:IntKind}(hx:(St.mk pe lo hp df).ah x=some (.int k a))(hy:(St.mk pe lo hp df).ah y=some (.int k b))
 (ha:0<=a/\0<b) (h:0<=a%b->a%b<b->WO M l ⟨⟨pe,(t,.int k (a%b))::lo,hp,df⟩,wr⟩ Q):WO M (⟨.l t,.bin .rem x y,none⟩::l) ⟨⟨pe,lo,hp,df⟩,wr⟩ Q:=by
 refine aez hx hy ac ?_;rw[Int.tmod_eq_emod_of_nonneg ha.1];exact h (Int.emod_nonneg _ ac) (Int.emod_lt_of_pos _ ha.2)
theorem abJ {f:aO}{args:List aO}{l:List aY}{h':ae}{wr':List Nat}{g:FuncId}{fi ca as:List AV}{v:AV}(hf:(St.mk pe lo hp df).ah f=some (.fn (.func g) fi ca))(ha:(St.mk pe lo hp df).cS args=some as)
 (he:M.ext g (fi++as++ca) hp=some ⟨v,h',wr'⟩) (h:WO M l ⟨⟨pe,(t,v)::lo,h',df⟩,wr'++wr⟩ Q):WO M (⟨.l t,.call f args,none⟩::l) ⟨⟨pe,lo,hp,df⟩,wr⟩ Q:=WO.Qu hf ha he h
theorem aeh {bytes:Nat}{elem:TypeId}{l:List aY}{k k':IntKind}{z:Int}{kz:IntKind}(hx:(St.mk pe lo hp df).ah x=some (.int k a))(hy:(St.mk pe lo hp df).ah y=some (.int k' b))
 (hc:0<=a/\a<=b/\b.toNat*bytes<=70368744177664/\b<=70368744177664) (h:WO M l ⟨⟨pe,(t,.sl hp.length 0 a.toNat 1 (some b.toNat))::lo,hp++[some (.cells (arr (fun x=>[.int kz x]) (d6 b.toNat z)) elem)],df⟩,wr⟩ Q) :
 WO M (⟨.l t,.gM elem 1 bytes [.int kz z] x y,none⟩::l) ⟨⟨pe,lo,hp,df⟩,wr⟩ Q:=by
 refine WO.QC hx hy ⟨hc.1,hc.2.1,by simp only[dO];omega,ac,rfl⟩ ?_;have e:=Ha (f:=fun x=>[AV.int kz x]) z b.toNat;grind
theorem adI (h:Q s):WD M [] s ds Q:=⟨⟨0,s,rfl,h⟩⟩
def ck.key (d:ck):Option (List Nat)×List Nat:=(d.jZ,d.own)
theorem Hg {call:ee}{inv:eW}:∀(l:List (aY×List Nat)) (s:au) (ds ds':List ck),ds.map ck.key=ds'.map ck.key->dS call inv l s ds=dS call inv l s ds'
 | [],_,_,_,_=>rfl
 | (o,un)::l,s,ds,ds',hk=>by
  have h1:∀j:Nat,(ds[j]?).elim [] ck.own=(ds'[j]?).elim [] ck.own:=fun j=>by
   have:=congrArg (fun x:List (Option (List Nat)×List Nat)=>x[j]?) hk;simp only[dU]at this;cases h3:ds[j]? <;> cases h4:ds'[j]? <;> rw[h3,h4]at this <;> simp[ck.key]at this ⊢<;>grind
  have h2:∀j:Nat,(ds[j]?).map ck.jZ=(ds'[j]?).map ck.jZ:=fun j=>by
   have:=congrArg (fun x:List (Option (List Nat)×List Nat)=>x[j]?) hk;simp only[dU]at this;cases h3:ds[j]? <;> cases h4:ds'[j]? <;> rw[h3,h4]at this <;> simp[ck.key]at this ⊢<;>grind
  have h7:(fun j:Nat=>(ds[j]?).elim [] ck.own)=(fun j:Nat=>(ds'[j]?).elim [] ck.own):=funext h1;have h8:∀d s,dS call inv l s (ds++[d])=dS call inv l s (ds'++[d]):=fun d s=>Hg l s _ _ (by simp[hk])
  unfold dS;simp only[h7,h8]<;>grind
theorem WD.norm {d d':ck}(hk:d.key=d'.key)(h:WD M l s (ds++[d]) Q):WD M l s (ds++[d']) Q:=by
 obtain⟨⟨n,s',h1,h2⟩⟩:=h;exact⟨⟨n,s',by grind[Hg],h2⟩⟩
theorem WD.QF {o:aY}(hh:o.op.bM=false)(h:WO M [o] s fun s'=>WD M l s' (ds++[⟨some [],[],s.s.hp.length,s.s.hp.length⟩]) Q):WD M ((o,un)::l) s ds Q:=by
 obtain⟨⟨n,s1,h1,⟨⟨m,s',h2,h3⟩⟩⟩⟩:=h;refine⟨⟨max n m,s',?_,h3⟩⟩;have h1':=mf (inv:=M.inv) (jo (fM n m)) _ _ _ h1;have h2':=ki (inv:=M.inv) (jo (ff n m)) _ _ _ _ h2;simp only[fk]at h1';have e2:bX (M.call (max n m)) M.inv s.s o.op=(bk s.s o.op).map fun v=>⟨v,s.s.hp,[]⟩:=by
  cases hq:o.op <;> rw[hq]at hh <;> first|(cases hh;done)|simp only[bX,bm.bM,bj,if_false]
 rw[e2]at h1';cases hw:eZ s.s o.guard with
 | none=>grind
 | some t=>
  rw[hw]at h1';cases t with
  | true=>
   simp only[dS,hw,hh,bj,if_false];cases hp:bk s.s o.op with
   | none=>grind
   | some v=>
    rw[hp]at h1';simp only[ce,dF,b5.injEq]at h1';have hput:({ s.s.put o.dst v with hp:=s.s.hp }:St)=s.s.put o.dst v:=by cases o.dst <;> rfl
    grind
  | false=>
   simp only[b5.injEq]at h1';simp only[dS,hw]<;>grind
theorem QG {h:ae}{b:Nat}{o:Option bR}:fA [b] h (ae.put (eu T h 0) b o) 0=ae.put h b o:=by
 apply cV;intro c;rw[jH _ _ _ _ _ (by simp[ae.put,gh])];simp only[ae.put,cN,gh,nc]<;>grind
theorem WD.QH {ag:Bool}{a:AV}(ha:s.s.ah x=some a)(hT:jM (some a)=T)(hd:iP T (un.flatMap fun j=>(ds[j]?).elim [] ck.own)=true)
 (h:WO M [⟨d,.load n ag x,none⟩] s fun s'=>WD M l s' (ds++[⟨some T,[],s.s.hp.length,s.s.hp.length⟩]) Q):WD M ((⟨d,.load n ag x,none⟩,un)::l) s ds Q:=by
 obtain⟨⟨k,s1,h1,⟨⟨m,s',h2,h3⟩⟩⟩⟩:=h;refine⟨⟨max k m,s',?_,h3⟩⟩;have h1':=mf (inv:=M.inv) (jo (fM k m)) _ _ _ h1;have h2':=ki (inv:=M.inv) (jo (ff k m)) _ _ _ _ h2;simp only[fk,eZ]at h1';subst hT;simp only[dS,eZ,bm.bM,if_true,He,ha,hd];rw[uz ha,Hf];rw[show bX (M.call (max k m)) M.inv s.s (.load n ag x)=_ from uz ha s.s.hp]at h1';cases hr:fV s.s.hp a with
 | none=>grind
 | some c=>
  rw[hr]at h1';simp only[b6]at h1' ⊢;cases hp:partOf c 0 n ag with
  | none=>grind
  | some v=>
   rw[hp]at h1';simp only[ce,dF,b5.injEq]at h1';simp only[ce,ip,i9,mn,fg,if_true,Hd,dF,gh]<;>grind
theorem WD.QI {b off:Nat}(ha:s.s.ah x=some (.ptr b off))(hd:iP [b] (un.flatMap fun j=>(ds[j]?).elim [] ck.own)=true)
 (hu:un.all (fun j=>match ds[j]? with|some d=>(match d.jZ with|some T=>iP [b] T|none=>false)|none=>false)=true)
 (h:WO M [⟨.no,.store n x y,none⟩] s fun s'=>WD M l s' (ds++[⟨some [b],[b],s.s.hp.length,s.s.hp.length⟩]) Q):WD M ((⟨.no,.store n x y,none⟩,un)::l) s ds Q:=by
 obtain⟨⟨k,s1,h1,⟨⟨m,s',h2,h3⟩⟩⟩⟩:=h;refine⟨⟨max k m,s',?_,h3⟩⟩;have h1':=mf (inv:=M.inv) (jo (fM k m)) _ _ _ h1;have h2':=ki (inv:=M.inv) (jo (ff k m)) _ _ _ _ h2;simp only[fk,eZ,bX,bm.bM,if_true,bU,ha]at h1';have hx':∀hp',St.ah { s.s with hp:=hp' } x=some (.ptr b off):=fun hp'=>by rw[←ha];rfl
 have hy':∀hp',St.ah { s.s with hp:=hp' } y=s.s.ah y:=fun hp'=>by rfl
 have hk:ae.at (eu [b] s.s.hp 0) b=s.s.hp.at b:=by simp[Hc]
 simp only[dS,eZ,bm.bM,if_true,lE,ha,hd,bX,bU,hx',hy'];cases hy:s.s.ah y with
 | none=>grind
 | some yv=>
  rw[hy]at h1';simp only[b6]at h1' ⊢;cases hc:yv.cells with
  | none=>grind
  | some new=>
   rw[hc]at h1';simp only at h1' ⊢;cases hb:s.s.hp.at b with
   | none=>grind
   | some o=>
    rw[hb]at h1';cases o with
    | cells c e=>
     simp only at h1' ⊢;by_cases hcond:new.length=n/\off+n<=c.length/\new.all cI=true
     . simp only[if_pos hcond,b5.injEq]at h1';simp only[if_pos hcond,n5,ip,fg,List.isEmpty_cons,Bool.false_or,hk,hb,Option.isSome_some,QG,ny,gh]<;>grind
     grind
    | map _=>cases h1'
    | iter _ _=>cases h1'
    | gA=>cases h1'
    | hole=>cases h1'
    | loop _ _ _ _ _ _=>cases h1'
theorem WD.QJ {f:aO}{args:List aO}{g:FuncId}{fi ca as:List AV}{v:AV}{hn:ae}(hf:s.s.ah f=some (.fn (.func g) fi ca))(ha:s.s.cS args=some as)
 (hU:(un.flatMap fun j=>(ds[j]?).elim [] ck.own)=[]) (he:M.ext g (fi++as++ca) s.s.hp=some ⟨v,s.s.hp++hn,[]⟩)
 (h:WD M l ⟨{ s.s.put d v with hp:=s.s.hp++hn },s.wr⟩ (ds++[⟨none,[],s.s.hp.length,s.s.hp.length+hn.length⟩]) Q):WD M ((⟨d,.call f args,none⟩,un)::l) s ds Q:=by
 obtain⟨⟨m,s',h2,h3⟩⟩:=h;refine⟨⟨m,s',?_,h3⟩⟩;have hm:mask s.s.hp []=s.s.hp:=rfl;have hcall:bX (M.call m) M.inv { s.s with hp:=s.s.hp } (.call f args)=some ⟨v,s.s.hp++hn,[]⟩:=by
  simp only[bX,hf,ha,iq,he]
 have hmerge:fA [] s.s.hp (s.s.hp++hn) 0=s.s.hp++hn:=by
  apply cV;intro c;rw[jH _ _ _ _ _ aq];split
  . grind
  . rfl
 simp only[dS,eZ,bm.bM,if_true,lE,hU,hm]<;>grind
theorem uB {t:Option (List Nat)}{w:List Nat}:ck.key ⟨t,w,n,n⟩=ck.key ⟨t,w,0,0⟩:=by simp[ck.key,ck.own]
theorem adO {o:aY}(hh:o.op.bM=false)(h:WO M [o] s fun s'=>WD M l s' (ds++[⟨some [],[],0,0⟩]) Q):WD M ((o,un)::l) s ds Q:=
 WD.QF hh (h.mono fun _ h=>h.norm uB.symm)
theorem adJ {ag:Bool}{a:AV}(ha:s.s.ah x=some a)(hT:jM (some a)=T)(hd:iP T (un.flatMap fun j=>(ds[j]?).elim [] ck.own)=true)
 (h:WO M [⟨d,.load n ag x,none⟩] s fun s'=>WD M l s' (ds++[⟨some T,[],0,0⟩]) Q):WD M ((⟨d,.load n ag x,none⟩,un)::l) s ds Q:=
 WD.QH ha hT hd (h.mono fun _ h=>h.norm uB.symm)
theorem adW {b off:Nat}(ha:s.s.ah x=some (.ptr b off))(hd:iP [b] (un.flatMap fun j=>(ds[j]?).elim [] ck.own)=true)
 (hu:un.all (fun j=>match ds[j]? with|some d=>(match d.jZ with|some T=>iP [b] T|none=>false)|none=>false)=true)
 (h:WO M [⟨.no,.store n x y,none⟩] s fun s'=>WD M l s' (ds++[⟨some [b],[b],0,0⟩]) Q):WD M ((⟨.no,.store n x y,none⟩,un)::l) s ds Q:=
 WD.QI ha hd hu (h.mono fun _ h=>h.norm uB.symm)
end Go.Ab
namespace Go.Ab
variable {t:Nat} {op:bm} {x:aO} {want:Bool} {pe:List AV} {lo:List (Nat×AV)} {hp:ae} {df wr un:List Nat} {Q:au->Prop} {d:fj} {l:List (aY×List Nat)} {s:au} {ds:List ck} {v:AV}
variable {M:ax}
theorem aej {l:List aY}(hx:(St.mk pe lo hp df).ah x=some (.ay []))(h:WO M l ⟨⟨pe,(t,cG)::lo,hp,df⟩,wr⟩ Q):WO M (⟨.l t,op,some (x,want)⟩::l) ⟨⟨pe,lo,hp,df⟩,wr⟩ Q:=WO.Qt hx h
theorem aeD {l:List aY}{a:Int}(hx:(St.mk pe lo hp df).ah x=some (.int .i64 a))
 (hr : -9223372036854775808<a/\a<=9223372036854775808) (h:WO M l ⟨⟨pe,(t,.int .i64 (-a))::lo,hp,df⟩,wr⟩ Q):WO M (⟨.l t,.un .neg x,none⟩::l) ⟨⟨pe,lo,hp,df⟩,wr⟩ Q:=
 WO.op (WP.pure (v:=.int .i64 (-a)) rfl (by
  have:IntKind.i64.wrap (0-a) = -a:=by rw[show 0-a = -a from by omega];exact nt ac
  simp[bk,hx,tx]at this ⊢;exact this) h)
theorem WD.QK {f:aO}{args:List aO}{g:FuncId}{fi ca as:List AV}(hf:s.s.ah f=some (.fn (.func g) fi ca))(ha:s.s.cS args=some as)
 (hU:(un.flatMap fun j=>(ds[j]?).elim [] ck.own)=[]) (he:M.ext g (fi++as++ca) s.s.hp=some ⟨v,s.s.hp,[]⟩)
 (h:WD M l ⟨s.s.put d v,s.wr⟩ (ds++[⟨none,[],0,0⟩]) Q):WD M ((⟨d,.call f args,none⟩,un)::l) s ds Q:=by
 have hp:({ s.s.put d v with hp:=s.s.hp++[] }:St)=s.s.put d v:=by cases d <;> simp[St.put]
 refine WD.QJ (hn:=[]) hf ha hU (by simpa using he) ?_;rw[hp];exact h.norm (by simp[ck.key,ck.own])
theorem adN {f:aO}{args:List aO}{g:FuncId}{fi ca as:List AV}(hf:(St.mk pe lo hp df).ah f=some (.fn (.func g) fi ca))(ha:(St.mk pe lo hp df).cS args=some as)
 (hU:(un.flatMap fun j=>(ds[j]?).elim [] ck.own)=[]) (he:M.ext g (fi++as++ca) hp=some ⟨v,hp,[]⟩)
 (h:WD M l ⟨⟨pe,(t,v)::lo,hp,df⟩,wr⟩ (ds++[⟨none,[],0,0⟩]) Q):WD M ((⟨.l t,.call f args,none⟩,un)::l) ⟨⟨pe,lo,hp,df⟩,wr⟩ ds Q:=WD.QK hf ha hU he h
theorem WD.take {t:Bool}(hx:s.s.ah x=some (.bool t))(ht:(t == want)=true)(h:WD M ((⟨d,op,none⟩,un)::l) s ds Q):WD M ((⟨d,op,some (x,want)⟩,un)::l) s ds Q:=by
 obtain⟨⟨n,s',h1,h2⟩⟩:=h;refine⟨⟨n,s',?_,h2⟩⟩;simp only[dS,eZ,hx,ht]at h1 ⊢;exact h1
theorem WD.skip (hx:s.s.ah x=some v)(ht:v = .bool !want\/v = .ay [])(h:WD M l ⟨s.s.put d cG,s.wr⟩ (ds++[⟨some [],[],0,0⟩]) Q):WD M ((⟨d,op,some (x,want)⟩,un)::l) s ds Q:=by
 obtain⟨⟨n,s',h1,h2⟩⟩:=h.norm (d':=⟨some [],[],s.s.hp.length,s.s.hp.length⟩) uB.symm;refine⟨⟨n,s',?_,h2⟩⟩;have hw:eZ s.s (some (x,want))=some false:=by
  rcases ht with rfl|rfl
  . simp only[eZ,hx];simp
  . simp only[eZ,hx]
 simp only[dS,hw];exact h1
theorem aeZ (hx:s.s.ah x=some (.bool false))(h:WD M ((⟨d,op,none⟩,un)::l) s ds Q):WD M ((⟨d,op,some (x,false)⟩,un)::l) s ds Q:=WD.take hx rfl h
theorem afa (hx:(St.mk pe lo hp df).ah x=some (.bool true))(h:WD M l ⟨⟨pe,(t,cG)::lo,hp,df⟩,wr⟩ (ds++[⟨some [],[],0,0⟩]) Q):WD M ((⟨.l t,op,some (x,false)⟩,un)::l) ⟨⟨pe,lo,hp,df⟩,wr⟩ ds Q:=WD.skip hx (.inl rfl) h
def bm.Hh:bm->Bool
 | .alloc .. | .box .. | .dX .. | .gM .. | .mP=>true
 | _=>false
theorem Am {s:St}{hp':ae}(x:aO):St.ah { s with hp:=hp' } x=s.ah x:=by rfl
theorem Hi {s:St}{hp':ae}:∀(ps:List (Nat×Nat×aO)),St.parts { s with hp:=hp' } ps=s.parts ps
 | []=>rfl
 | (o,n,x)::r=>by simp only[St.parts,Am,Hi r]
theorem QL {call:ee}{inv:eW}{s:St}(hn:op.Hh=true){r:HR}(hq:bX call inv s op=some r):∃o,r.h=s.hp++[o]/\r.wr=[]/\∀hp':ae,hp'.length=s.hp.length->bX call inv { s with hp:=hp' } op=some ⟨r.v,hp'++[o],[]⟩:=by
 cases op <;> first|(cases hn;done)|skip
 case alloc e z=>
  simp only[bX,bm.bM,if_true,bU]at hq;cases hq;exact⟨_,rfl,rfl,fun hp' hl=>by simp only[bX,bm.bM,if_true,bU,hl]⟩
 case box e n x=>
  simp only[bX,bm.bM,if_true,bU]at hq;split at hq
  . rename_i c hc;split at hq
    . rename_i hlen;cases hq;exact⟨_,rfl,rfl,fun hp' hl=>by simp only[bX,bm.bM,if_true,bU,Am,hc,hl,if_pos hlen]⟩
    grind
  grind
 case dX e len esz z ps=>
  simp only[bX,bm.bM,if_true,bU]at hq;split at hq
  . rename_i vs hvs;split at hq
    . rename_i c hc;split at hq
      . rename_i hlen;cases hq;exact⟨_,rfl,rfl,fun hp' hl=>by simp only[bX,bm.bM,if_true,bU,Hi,hvs,hc,hl,if_pos hlen]⟩
      grind
    grind
  grind
 case mP=>
  simp only[bX,bm.bM,if_true,bU]at hq;cases hq;exact⟨_,rfl,rfl,fun hp' hl=>by simp only[bX,bm.bM,if_true,bU,hl]⟩
 case gM e esz by' z a b=>
  simp only[bX,bm.bM,if_true,bU]at hq;split at hq
  . rename_i x y hx hy;split at hq
    . rename_i hc;cases hq;exact⟨_,rfl,rfl,fun hp' hl=>by simp only[bX,bm.bM,if_true,bU,Am,hx,hy,hl,if_pos hc]⟩
    grind
  grind
theorem aeu (hn:op.Hh=true)(h:WO M [⟨d,op,none⟩] s fun s'=>WD M l s' (ds++[⟨some [],[],s.s.hp.length,s.s.hp.length+1⟩]) Q):WD M ((⟨d,op,none⟩,un)::l) s ds Q:=by
 obtain⟨⟨k,s1,h1,⟨⟨m,s',h2,h3⟩⟩⟩⟩:=h;refine⟨⟨max k m,s',?_,h3⟩⟩;have h1':=mf (inv:=M.inv) (jo (fM k m)) _ _ _ h1;have h2':=ki (inv:=M.inv) (jo (ff k m)) _ _ _ _ h2;simp only[fk,eZ]at h1';have ht:lE s.s op=some []:=by cases op <;> first|(cases hn;done)|rfl
 have hh:op.bM=true:=by cases op <;> first|(cases hn;done)|rfl
 have hd:∀U,iP [] U=true:=fun U=>rfl
 cases hq:bX (M.call (max k m)) M.inv s.s op with
 | none=>grind
 | some r=>
  rw[hq]at h1';obtain⟨o,e1,e2,e3⟩:=QL hn hq;simp only[b5.injEq]at h1';simp only[dS,eZ,hh,if_true,ht,hd,e3 (eu [] s.s.hp 0) (gh _ _ _)];have hm:fA [] s.s.hp (eu [] s.s.hp 0++[o]) 0=s.s.hp++[o]:=by
   apply cV;intro c;rw[jH _ _ _ _ _ (by simp[gh])];split
   . grind
   . grind[d7,gh,gh]
  simp only[ip,i9,mn,fg,if_true,hm,dF,c6,List.length_singleton,gh]<;>grind
def rq (h:ae):AV->Option (List AV×Nat)
 | .str _=>none
 | .sl b off n esz _=>match h.at b with
   | some (.cells l _)=>(cut l off (n*esz)).map (·,n)
   | _=>none
 | v=>gN h v
def ru:List AV->Option (List Int)
 | []=>some []
 | .int .i64 n::r=>match ru r with
   | some l=>some (n::l)
   | none=>none
 | _=>none
theorem Hj:∀{c:List AV} {l:List Int},ru c=some l->c=ints l
 | [],l,h=>by cases h;rfl
 | v::r,l,h=>by
  unfold ru at h;split at h
  . grind
  . rename_i n r' e;cases e;split at h
    . rename_i l' hl;cases h;rw[Hj hl];rfl
    . cases h
  . cases h
def gm (h:ae)(v:AV):Option (List Int):=match rq h v with
 | some (c,n)=>match ru c with
   | some l=>if l.length=n then some l else none
   | none=>none
 | none=>none
theorem QM {α:Type}{f:α->List AV}{h:ae}{l:List α}(hc:rq h v=some (arr f l,l.length)):Sl f h v l:=by
 cases v <;> simp only[rq,gN]at hc <;> try (cases hc;done)
 case ab=>
  simp only[b5.injEq,ja.injEq]at hc;exact .inl ⟨rfl,List.eq_nil_of_length_eq_zero hc.2.symm⟩
 case sl b off len esz cap=>
  split at hc
  . rename_i c e hb;simp only[be,ja.injEq]at hc;obtain⟨c',h1,h2,h3⟩:=hc;subst h3;subst h2;exact .inr (.inr ⟨b,off,esz,cap,c,e,rfl,hb,h1⟩)
  grind
 case vs c len cap=>
  simp only[b5.injEq,ja.injEq]at hc;obtain⟨rfl,rfl⟩:=hc;exact .inr (.inl ⟨cap,rfl⟩)
theorem QN {h:ae}{l:List Int}(hi:gm h v=some l):Sl (fun x=>[.int .i64 x]) h v l:=by
 unfold gm at hi;split at hi
 . rename_i c n hc;split at hi
   . rename_i l' hl;split at hi
     . rename_i hn;cases hi;subst hn;rw[Hj hl]at hc;exact QM hc
     grind
   grind
 grind
end Go.Ab
namespace Go.Ab
variable {ars pe:List AV} {h hp:ae} {r:HR} {f:aO} {args:List aO} {l:List aY} {Q:au->Prop} {g v:AV} {t:Nat} {lo:List (Nat×AV)} {df wr:List Nat}
variable {M:ax}
def CT (M:ax)(g:AV)(ars:List AV)(h:ae)(r:HR):Prop:=∃n,M.call n g ars h=some r
theorem CT.run {f:FuncId}{fi ca:List AV}(he:M.ext f (fi++ars++ca) h=none)(hr:bg M f (fi++ars++ca) h r):CT M (.fn (.func f) fi ca) ars h r:=by
 obtain⟨n,hn⟩:=hr;exact⟨n,by simp only[iq,he];exact hn⟩
theorem WO.An {d:fj}{s:au}(hf:s.s.ah f=some g)(ha:s.s.cS args=some ars)(hc:CT M g ars s.s.hp r)
 (h:WO M l ⟨{ s.s.put d r.v with hp:=r.h },r.wr++s.wr⟩ Q):WO M (⟨d,.call f args,none⟩::l) s Q:=
 WO.op (WP.call hf ha (by obtain⟨n,hn⟩:=hc;exact⟨⟨n,r,hn,h⟩⟩))
theorem adQ {h':ae}{wr':List Nat}(hf:(St.mk pe lo hp df).ah f=some g)(ha:(St.mk pe lo hp df).cS args=some ars)
 (hc:CT M g ars hp ⟨v,h',wr'⟩) (h:WO M l ⟨⟨pe,(t,v)::lo,h',df⟩,wr'++wr⟩ Q):WO M (⟨.l t,.call f args,none⟩::l) ⟨⟨pe,lo,hp,df⟩,wr⟩ Q:=WO.An hf ha hc h
theorem WD.An {d:fj}{un:List Nat}{l:List (aY×List Nat)}{s:au}{ds:List ck}(hf:s.s.ah f=some g)(ha:s.s.cS args=some ars)
 (hU:(un.flatMap fun j=>(ds[j]?).elim [] ck.own)=[]) (he:CT M g ars s.s.hp ⟨v,s.s.hp,[]⟩)
 (h:WD M l ⟨s.s.put d v,s.wr⟩ (ds++[⟨none,[],0,0⟩]) Q):WD M ((⟨d,.call f args,none⟩,un)::l) s ds Q:=by
 obtain⟨⟨m,s',h2,h3⟩⟩:=h.norm (d':=⟨none,[],s.s.hp.length,s.s.hp.length⟩) (by simp[ck.key,ck.own]);obtain⟨n,hn⟩:=he;refine⟨⟨max n m,s',?_,h3⟩⟩;have h2':=ki (inv:=M.inv) (jo (ff n m)) _ _ _ _ h2;have hn':=jo (M:=M) (fM n m) _ _ _ _ hn;have hm:mask s.s.hp []=s.s.hp:=rfl;have hcall:bX (M.call (max n m)) M.inv { s.s with hp:=s.s.hp } (.call f args)=some ⟨v,s.s.hp,[]⟩:=by
  simp only[bX,hf,ha];exact hn'
 have hmerge:fA [] s.s.hp s.s.hp 0=s.s.hp:=by
  apply cV;intro c;rw[jH _ _ _ _ _ (b8 _)];split
  . rfl
  . rfl
 simp only[dS,eZ,bm.bM,if_true,lE,hU,hm];rw[hcall];have hp:({ s.s.put d v with hp:=s.s.hp }:St)=s.s.put d v:=by cases d <;> rfl
 grind
theorem afb {un:List Nat}{l:List (aY×List Nat)}{ds:List ck}(hf:(St.mk pe lo hp df).ah f=some g)(ha:(St.mk pe lo hp df).cS args=some ars)
 (hU:(un.flatMap fun j=>(ds[j]?).elim [] ck.own)=[]) (he:CT M g ars hp ⟨v,hp,[]⟩)
 (h:WD M l ⟨⟨pe,(t,v)::lo,hp,df⟩,wr⟩ (ds++[⟨none,[],0,0⟩]) Q):WD M ((⟨.l t,.call f args,none⟩,un)::l) ⟨⟨pe,lo,hp,df⟩,wr⟩ ds Q:=WD.An hf ha hU he h
theorem Hk {f N:Nat}{aP:List Nat}{res:List fw}{body:ao}(hft:M.FT f=some ⟨N,aP,res,body⟩)(hN:ars.length<=N)
 (hW:W M body ⟨⟨aP.map (fun t=>(ars[t]?).getD cG),[],h,[]⟩,[]⟩ fun e s=>(e = .normal\/e = .ret)/\s.s.cg=[]/\∃vs,dH s.s res=some vs/\fW (aV vs) h.length s=r):bg M f ars h r:=by
 obtain⟨⟨n,e,s,h1,h2,h3,vs,h4,h5⟩⟩:=hW;refine⟨n,?_⟩;have h1':bw M.ext M.inv M.FT n body ⟨⟨aP.map (fun t=>(ars[t]?).getD cG),[],h,[]⟩,[]⟩=some (e,s):=h1;simp only[gQ,hft];rw[if_neg ac];simp only[ax.ev,h1',if_pos h2,h3,kD,h4,h5]
def uD (b:Nat)(wr:List Nat):Prop:=∀x∈wr,x=b
theorem uD.cons {b:Nat}(h:uD b wr):uD b (b::wr):=fun x hx=>by
 rcases cd.1 hx with e|e
 . exact e
 . exact h x e
theorem Hl {b:Nat}{x y:Option bR}:(h.put b x).put b y=h.put b y:=by simp[ae.put]
theorem aeG {x:aO}{k:IntKind}{a:Int}(hx:(St.mk pe lo hp df).ah x=some (.int k a))(hr:0<=a/\a<18446744073709551616)
 (h:WO M l ⟨⟨pe,(t,.int .u64 a)::lo,hp,df⟩,wr⟩ Q):WO M (⟨.l t,.gW .u64 x,none⟩::l) ⟨⟨pe,lo,hp,df⟩,wr⟩ Q:=
 WO.op (WP.pure (v:=.int .u64 a) rfl (by
  have:IntKind.u64.wrap a=a:=by simp only[IntKind.wrap,IntKind.bits,IntKind.signed];simp;omega
  simp only[bk,hx,b6,oK,this]) h)
theorem aen {x:aO}{k:IntKind}{a:Int}(hx:(St.mk pe lo hp df).ah x=some (.int k a))(hr : -9223372036854775808<=a/\a<9223372036854775808)
 (h:WO M l ⟨⟨pe,(t,.int .i64 a)::lo,hp,df⟩,wr⟩ Q):WO M (⟨.l t,.gW .i64 x,none⟩::l) ⟨⟨pe,lo,hp,df⟩,wr⟩ Q:=
 WO.op (WP.pure (v:=.int .i64 a) rfl (by simp only[bk,hx,b6,oK,nt hr]) h)
end Go.Ab
namespace Go.Ab
variable {h:ae}
variable {M:ax}
theorem QO {v:AV}{s:au}(hh:s.s.hp=h)(hw:s.wr=[]):fW v h.length s=⟨v,h,[]⟩:=by
 have hk:h.take h.length=h:=List.take_length;simp only[fW,hh,hw,tight,ip,fg,List.filter_nil,hk];simp
theorem pD {g N:Nat}{aP:List Nat}{res:List fw}{body:ao}{ars:List AV}{v:AV}(hft:M.FT g=some ⟨N,aP,res,body⟩)(hN:ars.length<=N)
 (hW:W M body ⟨⟨aP.map (fun t=>(ars[t]?).getD cG),[],h,[]⟩,[]⟩ fun x s=>(x = .normal\/x = .ret)/\s.s.cg=[]/\s.s.hp=h/\s.wr=[]/\∃vs,dH s.s res=some vs/\aV vs=v):bg M g ars h ⟨v,h,[]⟩:=by
 refine Hk hft hN (hW.mono fun x s ⟨h1,h2,h3,h4,vs,h5,h6⟩=>⟨h1,h2,vs,h5,?_⟩);grind[QO]
theorem Hm {b:Nat}{o:bR}(hb:h.at b=some o):h.put b (some o)=h:=by
 have hl:=gG hb;apply cV;intro i;simp only[ae.put,cN];split
 . rename_i e;subst e;unfold ae.at at hb;grind
 . rfl
end Go.Ab
namespace Go.Ab
variable {b n:Nat} {wr:List Nat}
variable {M:ax}
def ry (b n:Nat)(wr:List Nat):Prop:=∀x∈wr,x=b\/n<=x
theorem ry.only(h:uD b wr):ry b n wr:=fun x hx=>.inl (h x hx)
theorem ry.cons (h:ry b n wr):ry b n (b::wr):=fun x hx=>by
 rcases cd.1 hx with e|e
 . omega
 . exact h x e
theorem gS {f N:Nat}{aP:List Nat}{res:List fw}{body:ao}{ars:List AV}{P:AV->ae->Prop}(hft:M.FT f=some ⟨N,aP,res,body⟩)(hN:ars.length<=N)
 (h:W M body ⟨⟨aP.map (fun t=>(ars[t]?).getD cG),[],[],[]⟩,[]⟩ fun e s=>(e = .normal\/e = .ret)/\s.s.cg=[]/\∃vs,dH s.s res=some vs/\P (aV vs) (if (aV vs).top<=0 then [] else s.s.hp)):∃v hh,P v hh/\bg M f ars [] ⟨v,hh,[]⟩:=by
 obtain⟨⟨n,e,s,h1,h2,h3,vs,h4,h5⟩⟩:=h;exact⟨_,_,h5,bY hft hN ⟨⟨n,e,s,h1,h2,h3,vs,h4,rfl,rfl⟩⟩⟩
theorem WO.Hn {t o:Nat}{ag:Bool}{x:aO}{l:List aY}{pe:List AV}{lo:List (Nat×AV)}{hp:ae}{df:List Nat}{c:List AV}{e:TypeId}{v:AV}{Q:au->Prop}(hx:(St.mk pe lo hp df).ah x=some (.ptr b o))(hb:hp.at b=some (.cells c e))(hv:partOf (c.drop o) 0 n ag=some v)
 (h:WO M l ⟨⟨pe,(t,v)::lo,hp,df⟩,wr⟩ Q):WO M (⟨.l t,.load n ag x,none⟩::l) ⟨⟨pe,lo,hp,df⟩,wr⟩ Q:=
 aet hx (show fV hp (.ptr b o)=some (c.drop o) by simp only[fV,hb]) hv h
theorem QP {n:Int}(h:0<=n/\n<18446744073709551616):IntKind.u64.wrap n=n:=by
 simp only[IntKind.wrap,IntKind.bits,IntKind.signed];grind
theorem afc {t L:Nat}{x y:aO}{l:List aY}{pe:List AV}{lo:List (Nat×AV)}{hp:ae}{df:List Nat}{k:IntKind}{a:Int}{Q:au->Prop}(hx:(St.mk pe lo hp df).ah x=some (.int .u64 a))(hy:(St.mk pe lo hp df).ah y=some (.int k L))(hL:L<=64)
 (hr:0<=a*2^L/\a*2^L<18446744073709551616) (h:WO M l ⟨⟨pe,(t,.int .u64 (a*2^L))::lo,hp,df⟩,wr⟩ Q):WO M (⟨.l t,.bin .shl x y,none⟩::l) ⟨⟨pe,lo,hp,df⟩,wr⟩ Q:=
 abh (v:=.int .u64 (a*2^L)) (by
  have e:min ((L:Int)).toNat IntKind.u64.bits=L:=by simp only[IntKind.bits];omega
  simp only[bk,hx,hy,dy,e,QP hr]<;>grind) rfl h
theorem Hp {α:Type}{f:α->List AV}(hf:∀a,(f a).all cI=true):∀l:List α,(arr f l).all cI=true
 | []=>rfl
 | a::l=>by
  have:=Hp hf l;simp only[arr]at this;simp only[arr,i6,List.all_append,hf a,this,Bool.and_self]
end Go.Ab
namespace Go.Ab
variable {M:ax}
end Go.Ab
namespace Go.Ab
variable {P:Program} {gl:Nat->Option AV}
end Go.Ab
namespace Go.Ab
open Go.ChangeShapes Go.WideShapes Go.RowKit
variable {H:Type} {enc:TypeId×Value->H} {P:Program} {W:World} {base:Nat} {sp:Nat->Bool} {t e:TypeId} {v:Value} {d:DataW H} {ps:List MemPlace}
theorem QQ {c:Nat}:da bare c:=⟨fun b d hb=>by simp[bare]at hb,fun hx=>hx⟩
end Go.Ab
namespace Go.Ab
variable {M:ax}
abbrev aj:=List UInt8
def bK:List Int->Int
 | []=>0
 | e::r=>if e=0 then bK r else e
end Go.Ab
namespace Go.Ab
variable {h:ae} {v:AV} {n:Nat}
variable {M:ax}
structure uE (M:ax)(f:FuncId)(as:List AV)(h:ae)(K:HR->Prop):Prop where
 out:∃r,bg M f as h r/\K r
theorem uE.Hq {f N:Nat}{aP:List Nat}{res:List fw}{body:ao}{ars:List AV}{K:HR->Prop}(hft:M.FT f=some ⟨N,aP,res,body⟩)(hN:ars.length<=N)
 (hW:W M body ⟨⟨aP.map (fun t=>(ars[t]?).getD cG),[],h,[]⟩,[]⟩ fun e s=>(e = .normal\/e = .ret)/\∃s',kD s.s.cg s=some s'/\∃vs,dH s'.s res=some vs/\K (fW (aV vs) h.length s')):uE M f ars h K:=by
 obtain⟨⟨n,e,s,h1,h2,s',h3,vs,h4,h5⟩⟩:=hW;refine⟨_,⟨n,?_⟩,h5⟩;have h1':bw M.ext M.inv M.FT n body ⟨⟨aP.map (fun t=>(ars[t]?).getD cG),[],h,[]⟩,[]⟩=some (e,s):=h1;simp only[gQ,hft]<;>grind
theorem QR {s:au}(hv:v.top<=n)(ht:tight s.s.hp n s.wr=true):fW v n s=⟨v,s.s.hp.take n,s.wr.filter (· < n)⟩:=by
 unfold fW;grind
theorem aeo {t:Nat}{x y:aO}{l:List aY}{pe:List AV}{lo:List (Nat×AV)}{hp:ae}{df wr:List Nat}{a b:aj}{Q:au->Prop}(hx:(St.mk pe lo hp df).ah x=some (.str a))(hy:(St.mk pe lo hp df).ah y=some (.str b))(hr:a.length+b.length<4611686018427387904)
 (h:WO M l ⟨⟨pe,(t,.str (a++b))::lo,hp,df⟩,wr⟩ Q):WO M (⟨.l t,.bin .add x y,none⟩::l) ⟨⟨pe,lo,hp,df⟩,wr⟩ Q:=
 abh (v:=.str (a++b)) (by simp only[bk,hx,hy,dy];grind) rfl h
theorem QS {J:ae}{s:au}(hh:s.s.hp=h++J)(hw:∀x∈s.wr,h.length<=x)(hv:v.top<=h.length):fW v h.length s=⟨v,h,[]⟩:=by
 have hf:s.wr.filter (· < h.length)=[]:=by
  rw[List.filter_eq_nil_iff];intro x hx;have:=hw x hx;simp;omega
 have ht:tight s.s.hp h.length s.wr=true:=by
  simp only[tight,c5];intro x hx;have:=hw x hx;split <;> simp[this]
 grind[QR]
theorem mg {g N:Nat}{aP:List Nat}{res:List fw}{body:ao}{ars:List AV}(hft:M.FT g=some ⟨N,aP,res,body⟩)(hN:ars.length<=N)(hv:v.top<=h.length)
 (hW:W M body ⟨⟨aP.map (fun t=>(ars[t]?).getD cG),[],h,[]⟩,[]⟩ fun x s=>(x = .normal\/x = .ret)/\s.s.cg=[]/\(∃J,s.s.hp=h++J)/\(∀x∈s.wr,h.length<=x)/\∃vs,dH s.s res=some vs/\aV vs=v):bg M g ars h ⟨v,h,[]⟩:=by
 refine Hk hft hN (hW.mono fun x s ⟨h1,h2,⟨J,h3⟩,h4,vs,h5,h6⟩=>⟨h1,h2,vs,h5,?_⟩);grind[QS]
section
variable {t b j:Nat} {x y:aO} {l:List aY} {pe:List AV} {lo:List (Nat×AV)} {hp:ae} {df wr:List Nat} {c:List AV} {e:TypeId} {Q:au->Prop}
theorem aeA {ag:Bool}(hx:(St.mk pe lo hp df).ah x=some (.ptr b j))(hb:hp.at b=some (.cells c e))(hv:partOf (c.drop j) 0 n ag=some v)
 (h:WO M l ⟨⟨pe,(t,v)::lo,hp,df⟩,wr⟩ Q):WO M (⟨.l t,.load n ag x,none⟩::l) ⟨⟨pe,lo,hp,df⟩,wr⟩ Q:=
 acn (v:=v) (h':=hp) (w':=[]) (by simp only[bU,hx,b6,fV,hb,hv]) rfl rfl h
theorem adM {new:List AV}(hx:(St.mk pe lo hp df).ah x=some (.ptr b j))(hy:((St.mk pe lo hp df).ah y).bind AV.cells=some new)(hb:hp.at b=some (.cells c e))(hn:new.length=n/\j+n<=c.length/\new.all cI=true){c':List AV}(hc:overwrite c j new=c')
 (h:WO M l ⟨⟨pe,lo,hp.put b (some (.cells c' e)),df⟩,b::wr⟩ Q):WO M (⟨.no,.store n x y,none⟩::l) ⟨⟨pe,lo,hp,df⟩,wr⟩ Q:=by
 subst hc;refine aea (v:=cG) (h':=hp.put b (some (.cells (overwrite c j new) e))) (w':=[b]) ?_ rfl rfl h;simp only[bU,hx,hy,hb]<;>grind
end
end Go.Ab
namespace Go.Ab
variable {M:ax} {t:Nat} {x y z:aO} {l:List aY} {pe:List AV} {lo:List (Nat×AV)} {hp:ae} {df wr:List Nat} {s r:aj} {k k':IntKind} {a b:Int} {Q:au->Prop}
theorem adY (hx:(St.mk pe lo hp df).ah x=some (.str s))(hy:(St.mk pe lo hp df).ah y=some (.int k a))(ha:0<=a/\a<=s.length)(hr:s.drop a.toNat=r)
 (h:WO M l ⟨⟨pe,(t,.str r)::lo,hp,df⟩,wr⟩ Q):WO M (⟨.l t,.slice .str 1 x (some y) none none,none⟩::l) ⟨⟨pe,lo,hp,df⟩,wr⟩ Q:=by
 subst hr;refine abh (v:=.str (s.drop a.toNat)) ?_ rfl h;simp only[bk,hx,St.dY,hy,ce,jD,bZ];rw[if_pos ha];grind[f6]
theorem aec (hx:(St.mk pe lo hp df).ah x=some (.str s))(hy:(St.mk pe lo hp df).ah y=some (.int k a))(ha:0<=a/\a<=s.length)(hr:s.take a.toNat=r)
 (h:WO M l ⟨⟨pe,(t,.str r)::lo,hp,df⟩,wr⟩ Q):WO M (⟨.l t,.slice .str 1 x none (some y) none,none⟩::l) ⟨⟨pe,lo,hp,df⟩,wr⟩ Q:=by
 subst hr;refine abh (v:=.str (s.take a.toNat)) ?_ rfl h;simp only[bk,hx,St.dY,hy,ce,jD,bZ]<;>grind
theorem afk (hx:(St.mk pe lo hp df).ah x=some (.str s))(hy:(St.mk pe lo hp df).ah y=some (.int k a))(hz:(St.mk pe lo hp df).ah z=some (.int k' b))(ha:0<=a/\a<=b/\b<=s.length)(hr:(s.drop a.toNat).take (b.toNat-a.toNat)=r)
 (h:WO M l ⟨⟨pe,(t,.str r)::lo,hp,df⟩,wr⟩ Q):WO M (⟨.l t,.slice .str 1 x (some y) (some z) none,none⟩::l) ⟨⟨pe,lo,hp,df⟩,wr⟩ Q:=by
 subst hr;refine abh (v:=.str ((s.drop a.toNat).take (b.toNat-a.toNat))) ?_ rfl h;have h1:0<=b/\b<=(s.length:Int):=⟨ac,ha.2.2⟩;have h2:0<=a/\a<=(b.toNat:Int):=⟨ha.1,ac⟩;simp only[bk,hx,St.dY,hy,hz,ce,jD,bZ]<;>grind
theorem afl {m:Int}(hx:(St.mk pe lo hp df).ah x=some (.int k a))(hy:(St.mk pe lo hp df).ah y=some (.int k b))(hm:m=a/\a<=b\/m=b/\b<=a)
 (h:WO M l ⟨⟨pe,(t,.int k m)::lo,hp,df⟩,wr⟩ Q):WO M (⟨.l t,.mm false [x,y],none⟩::l) ⟨⟨pe,lo,hp,df⟩,wr⟩ Q:=by
 refine abh (v:=.int k m) ?_ rfl h;simp only[bk,St.cS,hx,hy];have e:(if b<a then b else a)=m:=by split <;> omega
 simp[mQ,e]
end Go.Ab
namespace Go.Ab
variable {e:TypeId}
variable {M:ax}
theorem adR {u n b off:Nat}{ag:Bool}{x:aO}{L:List aY}{pe:List AV}{lo:List (Nat×AV)}{hp:ae}{df wr:List Nat}{c:List AV}{v:AV}{Q:au->Prop}(hx:(St.mk pe lo hp df).ah x=some (.ptr b off))(hb:hp.at b=some (.cells c e))(hv:partOf (c.drop off) 0 n ag=some v)
 (h:WO M L ⟨⟨pe,(u,v)::lo,hp,df⟩,wr⟩ Q):WO M (⟨.l u,.load n ag x,none⟩::L) ⟨⟨pe,lo,hp,df⟩,wr⟩ Q:=
 acn (v:=v) (h':=hp) (w':=[]) (by simp only[bU,hx,b6,fV,hb,hv]) rfl rfl h
theorem adS {n:Nat}{x y:aO}{L:List aY}{pe:List AV}{lo:List (Nat×AV)}{K:ae}{df wr:List Nat}{c c' new:List AV}{Q:au->Prop}(hx:(St.mk pe lo (K++[some (.cells c e)]) df).ah x=some (.ptr K.length 0))(hy:((St.mk pe lo (K++[some (.cells c e)]) df).ah y).bind AV.cells=some new)
 (hn:new.length=n/\n<=c.length/\new.all cI=true) (ho:overwrite c 0 new=c') (h:WO M L ⟨⟨pe,lo,K++[some (.cells c' e)],df⟩,K.length::wr⟩ Q):WO M (⟨.no,.store n x y,none⟩::L) ⟨⟨pe,lo,K++[some (.cells c e)],df⟩,wr⟩ Q:=by
 obtain⟨h1,h2,h3⟩:=hn;refine aea (v:=cG) (h':=K++[some (.cells c' e)]) (w':=[K.length]) ?_ rfl rfl h;simp only[bU,hx,hy,bS,ii];rw[if_pos ⟨h1,h2,h3⟩,ho];simp[ae.put]
def Ap {α:Type}(f:α->List AV)(esz:Nat)(e:TypeId)(hp:ae)(o:AV)(acc:List α)(S:List Nat):Prop:=(acc=[]/\o = .ab)\/∃c,acc≠[]/\c∉S/\o = .sl c 0 acc.length esz none/\hp.at c=some (.cells (arr f acc) e)
theorem Ap.fin {α:Type}{f:α->List AV}{esz:Nat}{hp:ae}{o:AV}{acc:List α}{S:List Nat}(h:Ap f esz e hp o acc S):Ap f esz e (if (aV [o]).top<=0 then [] else hp) o acc S:=by
 rcases h with ⟨h1,rfl⟩|⟨c,h0,h1,rfl,h2⟩
 . exact .inl ⟨h1,rfl⟩
 . refine .inr ⟨c,h0,h1,rfl,?_⟩;rw[if_neg (by simp[aV,AV.top])];exact h2
end Go.Ab
namespace Go.Ab
variable {M:ax} {P:Program} {gl:Nat->Option AV}
open Classical in
noncomputable def pE (R:List AV->ae->HR->Prop):Spec:=fun as h=>if e:∃r,R as h r then some (m7 e) else none
theorem Hr {f:Nat}{R:List AV->ae->HR->Prop}(hR:∀as h r,R as h r->bl P gl ⟨f,as,h,r⟩):ba P gl f (pE R):=by
 intro as h r hq;unfold pE at hq;split at hq<;>grind
theorem Hs {R:List AV->ae->HR->Prop}{as:List AV}{h:ae}{r:HR}(hr:R as h r)(hd:∀r',R as h r'->r'=r):pE R as h=some r:=by
 unfold pE;rw[dif_pos ⟨r,hr⟩];grind
section
variable {α:Type} {f:α->List AV} {esz:Nat}
theorem Sl.kj {h:ae}:Sl f h .ab ([]:List α):=.inl ⟨rfl,rfl⟩
theorem Sl.iZ (hf:∀a,(f a).length=esz){h:ae}{l:List α}{b n:Nat}{e:TypeId}{cap:Option Nat}(hb:h.at b=some (.cells (arr f l) e))(hn:l.length=n):Sl f h (.sl b 0 n esz cap) l:=by
 subst hn;refine .inr (.inr ⟨b,0,esz,cap,_,e,rfl,hb,?_⟩);have:=kO hf (l:=l) (i:=0) (n:=l.length) ac<;>grind
end
theorem aev {t:Nat}{ty:gK}{neg:Bool}{x y:aO}{l:List aY}{pe:List AV}{lo:List (Nat×AV)}{hp:ae}{df wr:List Nat}{a b:AV}{r:Bool}{Q:au->Prop}(hx:(St.mk pe lo hp df).ah x=some a)(hy:(St.mk pe lo hp df).ah y=some b)(he:dG 100 ty a b=some r)
 (h:WO M l ⟨⟨pe,(t,.bool (if neg then !r else r))::lo,hp,df⟩,wr⟩ Q):WO M (⟨.l t,.eq neg ty x y,none⟩::l) ⟨⟨pe,lo,hp,df⟩,wr⟩ Q:=
 abh (v:=.bool (if neg then !r else r)) (by simp only[bk,hx,hy,he]) rfl h
end Go.Ab
namespace Go.Ab
open Go.ChangeShapes Go.WideShapes Go.RowKit
inductive iz
 | bool
 | int (k:IntKind)
 | str
 | slice (es:List iz)
mutual
def Has:iz->AV->Prop
 | .bool,x=>∃b,x = .bool b
 | .int k,x=>∃n,x = .int k n/\(Lit.int k n).wf=true
 | .str,x=>∃s:List UInt8,x = .str s/\s.length<=maxLen
 | .slice es,x=>∃ls:List (List AV),x = .vs ls.flatten ls.length none/\ls.length<=maxLen/\∀c∈ls,eh es c
def eh:List iz->List AV->Prop
 | [],l=>l=[]
 | t::ts,l=>∃x r,l=x::r/\Has t x/\eh ts r
end
theorem eh.length:∀{ts:List iz} {l:List AV},eh ts l->l.length=ts.length
 | [],l,h=>by simp only[eh]at h;grind
 | t::ts,l,h=>by
  simp only[eh]at h;obtain⟨x,r,rfl,_,h2⟩:=h;simp[h2.length]
theorem eh.append:∀{ts us:List iz} {l m:List AV},eh ts l->eh us m->eh (ts++us) (l++m)
 | [],us,l,m,h,h'=>by simp only[eh]at h;grind
 | t::ts,us,l,m,h,h'=>by
  simp only[eh]at h;obtain⟨x,r,rfl,h1,h2⟩:=h;simp only[gT,eh];exact⟨x,r++m,rfl,h1,h2.append h'⟩
section
variable (P:Program)
def uF (rec:TypeId->Option (List iz)):List Field->Nat->Option (List iz)
 | [],_=>some []
 | f::fs,o=>if f.offset=o then match rec f.type with
     | some l=>if l.length=P.cellsOf f.type then (uF rec fs (o+l.length)).map (l ++ ·) else none
     | none=>none
   else none
def mh:Nat->TypeId->Option (List iz)
 | 0,_=>none
 | n+1,t=>match P.underlying t with
   | some .bool=>some [.bool]
   | some (.int k)=>some [.int k]
   | some .string=>some [.str]
   | some (.slice e)=>match mh n e with
     | some (c::r)=>if (c::r).length=P.cellsOf e then some [.slice (c::r)] else none
     | _=>none
   | some (.struct fs)=>match uF P (mh n) fs.toList 0 with
     | some l=>if l.length=P.cellsOf t then some l else none
     | none=>none
   | some (.array m e)=>match mh n e with
     | some l=>if l.length=P.cellsOf e/\(d6 m l).flatten.length=P.cellsOf t then some (d6 m l).flatten else none
     | none=>none
   | _=>none
end
variable {H:Type} {enc:TypeId×Value->H} {P:Program} {W:World}
def Aq (H:Type)(enc:TypeId×Value->H)(P:Program)(W:World)(t:TypeId)(l:List iz):Prop:=
 ∀(fuel:Nat) (cs:List Value) (x:DataW H×List MemPlace),DataW.trod enc P W 0 (fun _=>true) true fuel t cs=some x->∃xs,eh l xs/\VL bare W xs cs
theorem Ht (rec:TypeId->Option (List iz))(hrec:∀t l,rec t=some l->Aq H enc P W t l){cs:List Value}:∀(fs:List Field) (o:Nat) (l:List iz),uF P rec fs o=some l->o<=cs.length ->
 (∀(i:Nat) (f:Field),fs[i]? = some f->∃(n:Nat) (x:DataW H×List MemPlace),DataW.trod enc P W 0 (fun _=>true) true n f.type ((cs.drop f.offset).take (P.cellsOf f.type))=some x) ->
 ∃xs,eh l xs/\VL bare W xs ((cs.drop o).take l.length)
 | [],o,l,h,_,_=>by
  cases h;exact⟨[],rfl,by simpa using VL.nil⟩
 | f::fs,o,l,h,ho,hf=>by
  simp only[uF]at h;split at h
  . rename_i hoff;split at h
    . rename_i l1 hl1;split at h
      . rename_i hlen;rw[be]at h;obtain⟨l2,hl2,rfl⟩:=h;obtain⟨n,x,hx⟩:=hf 0 f rfl;rw[hoff,←hlen]at hx;obtain⟨xs1,g1,g2⟩:=hrec _ _ hl1 _ _ _ hx;have e1:((cs.drop o).take l1.length).length=l1.length:=by rw[←g2.1,g1.length]
        have ho':o+l1.length<=cs.length:=by simp at e1;omega
        obtain⟨xs2,g3,g4⟩:=Ht rec hrec fs (o+l1.length) l2 hl2 ho' (fun i f hi=>hf (i+1) f hi);refine⟨xs1++xs2,g1.append g3,?_⟩;have e2:(cs.drop o).take (l1++l2).length=(cs.drop o).take l1.length++(cs.drop (o+l1.length)).take l2.length:=by
         rw[c6,n6,n3]
        rw[e2];exact g2.append g4
      . cases h
    . cases h
  . cases h
theorem Hu (l:List iz){e:TypeId}(he:Aq H enc P W e l){cs:List Value}:∀(m o:Nat),o+m*l.length<=cs.length ->
 (∀i,i<m->∃(n:Nat) (x:DataW H×List MemPlace),DataW.trod enc P W 0 (fun _=>true) true n e ((cs.drop (o+i*l.length)).take l.length)=some x) ->
 ∃xs,eh (d6 m l).flatten xs/\VL bare W xs ((cs.drop o).take (m*l.length))
 | 0,o,_,_=>⟨[],rfl,by simpa using VL.nil⟩
 | m+1,o,ho,h=>by
  obtain⟨n,x,hx⟩:=h 0 ac;rw[Nat.zero_mul,le]at hx;obtain⟨xs1,g1,g2⟩:=he _ _ _ hx;have e0:(m+1)*l.length=l.length+m*l.length:=by rw[m9];omega
  obtain⟨xs2,g3,g4⟩:=Hu (cs:=cs) l he m (o+l.length) ac aw;refine⟨xs1++xs2,?_,?_⟩
  . rw[kM,f7];exact g1.append g3
  . rw[e0,n6,n3];exact g2.append g4
theorem Hv {n:Nat}:∀{ls:List (List AV)} {j:Nat} {x:AV},0<n->(∀c∈ls,c.length=n)->ls.flatten[j]? = some x->∃c,ls[j/n]? = some c/\c[j%n]? = some x
 | [],j,x,_,_,h=>by simp at h
 | a::ls,j,x,hn,hl,h=>by
  have ha:a.length=n:=hl a aq;rw[f7]at h;rcases bc j n with hj|hj
  . rw[cK ac]at h;refine⟨a,?_,?_⟩
    . rw[Nat.div_eq_of_lt hj];rfl
    . rw[Nat.mod_eq_of_lt hj];exact h
  . rw[d7 ac,ha]at h;obtain⟨c,h1,h2⟩:=Hv (j:=j-n) hn aw h;have e1:j/n=(j-n)/n+1:=by
     rw[←Nat.add_div_right _ hn,Nat.sub_add_cancel hj]
    have e2:j%n=(j-n)%n:=by
     rw[←Nat.mod_eq_sub_mod hj]
    grind
theorem Hw {n:Nat}:∀{ls:List (List AV)},(∀c∈ls,c.length=n)->ls.flatten.length=ls.length*n
 | [],_=>by simp
 | a::ls,h=>by
  rw[f7,c6,h a aq,Hw (fun c hc=>h c (by simp[hc])),d9,m9];omega
theorem uG:∀(n:Nat) (t:TypeId) (l:List iz),mh P n t=some l->Aq H enc P W t l
 | 0,t,l,h=>by cases h
 | n+1,t,l,h=>by
  intro fuel cs x hx;unfold mh at h;split at h
  . rename_i hu;cases h;obtain⟨b,rfl,_⟩:=DataW.trod_bool hu hx;exact⟨[.bool b],by simp[eh,Has],.cons (.bool b) .nil⟩
  . rename_i k hu;cases h;obtain⟨z,rfl,_,hw⟩:=DataW.trod_int hu hx;refine⟨[.int k z],?_,.cons (.int k z) .nil⟩;simp only[eh,Has];exact⟨_,[],rfl,⟨z,rfl,hw⟩,rfl⟩
  . rename_i hu;cases h;obtain⟨z,rfl,_,hw⟩:=DataW.trod_string hu hx;refine⟨[.str z.data.toList],?_,.cons (.yM z) .nil⟩;simp only[eh,Has];have e:z.data.toList.length=z.size:=Array.length_toList;exact⟨_,[],rfl,⟨_,rfl,ac⟩,rfl⟩
  . rename_i e hu;split at h
    . rename_i c r hc;split at h
      . rename_i hlen;cases h;have he:=uG n e (c::r) hc;rcases Go.Deep.open_slice hu hx with ⟨rfl,_⟩|⟨a,len,cap,m,k,D,Pl,rfl,_,hle,hcap,hm,_,hall⟩
        . refine⟨[.vs [] 0 none],?_,.cons (.fa aq) .nil⟩;simp only[eh,Has];exact⟨_,[],rfl,⟨[],rfl,ib _,aq⟩,rfl⟩
        . have hm':m=cap:=by simpa using hm
          subst hm';by_cases h0:m=0
          . subst h0;obtain rfl:len=0:=by omega
            refine⟨[.vs [] 0 none],?_,.cons (.fK a aq) .nil⟩;simp only[eh,Has];exact⟨_,[],rfl,⟨[],rfl,ib _,aq⟩,rfl⟩
          . rw[←hlen]at hall;have hn0:0<(c::r).length:=by simp
            generalize hes:(c::r)=es at *
            have hsp:a.spot=none:=by
             obtain⟨cs',h1,_⟩:=hall 0 ac;obtain⟨_,hl3,hc3⟩:=mp h1;have h5:=hc3 0 ac;rw[az ac]at h5;have:=World.cell?_spot h5;simpa[Addr.add] using this
            obtain⟨b,off,spot⟩:=a;simp only at hsp;subst hsp;have hex:∀i,i<len->∃cx:List Value×List AV,W.cells? 0 ((Addr.mk b off none).add (i*es.length)) es.length=some cx.1/\eh es cx.2/\VL bare W cx.2 cx.1:=fun i hi=>by
             obtain⟨cs',h1,h2⟩:=hall i ac;obtain⟨xs,h3,h4⟩:=he _ _ _ h2;exact⟨(cs',xs),h1,h3,h4⟩
            obtain⟨f,hf⟩:=Go.Deep.choose_lt (α:=List Value×List AV) hex;have hL:∀c∈(n4 len).map (fun i=>(f i).2),eh es c:=aw;have hLl:∀c∈(n4 len).map (fun i=>(f i).2),c.length=es.length:=fun c hc=>(hL c hc).length
            refine⟨[.vs ((n4 len).map (fun i=>(f i).2)).flatten len none],?_,.cons ?_ .nil⟩
            . simp only[eh,Has];exact⟨_,[],rfl,⟨_,aq,aw,hL⟩,rfl⟩
            . have hfl:=Hw hLl;rw[nz,List.length_range]at hfl;have hdiv:∀i,i<len*es.length->i/es.length<len:=fun i hi=>(Nat.div_lt_iff_lt_mul hn0).2 hi
              refine .vs b off (fun j=>((f (j/es.length)).1[j%es.length]?).getD (.bool false)) (fun _=>QQ) hle aq (fun j hj=>?_) (fun j x hx=>?_)
              . rw[hfl]at hj;obtain⟨h1,_,h3⟩:=hf _ (hdiv j hj);obtain⟨_,hl3,hc3⟩:=mp h1;have hmod:=Nat.mod_lt j hn0;have:=hc3 (j%es.length) ac;rw[add_plain,add_plain]at this;have e:off+j=off+j/es.length*es.length+j%es.length:=by
                 have:=Nat.div_add_mod j es.length;rw[Nat.mul_comm]at this;omega
                rw[e,this,az ac];rfl
              . obtain⟨c',h1,h2⟩:=Hv hn0 hLl hx;have hlt:j<len*es.length:=by
                 rw[←hfl];exact(aW.1 hx).1
                have hd:=hdiv j hlt;rw[dU,List.getElem?_range hd,ce]at h1;cases h1;obtain⟨g1,g2,g3⟩:=hf _ hd;have hmod:=Nat.mod_lt j hn0;have hl3:j%es.length<(f (j/es.length)).1.length:=by rw[←g3.1,g2.length];exact hmod
                rw[az hl3];exact g3.2 _ _ _ h2 (az hl3)
      . cases h
    . cases h
  . rename_i fs hu;split at h
    . rename_i l' hl';split at h
      . rename_i hlen;cases h;obtain⟨xs,k,_,_,hcl,hxl,hall⟩:=DataW.trod_struct hu hx;have:=Ht (H:=H) (enc:=enc) (W:=W) (cs:=cs) (mh P n) (fun t l ht=>uG n t l ht) fs.toList 0 _ hl' (ib _) (fun i f hi=>by
         grind)
        grind
      . cases h
    . cases h
  . rename_i m e hu;split at h
    . rename_i l' hl';split at h
      . rename_i hlen;cases h;obtain⟨h1,h2⟩:=hlen;obtain⟨xs,k,_,_,hcl,hxl,hall⟩:=DataW.trod_array hu hx;have e2:m*l'.length=cs.length:=by rw[hcl,←h2];simp
        have:=Hu (H:=H) (enc:=enc) (W:=W) (cs:=cs) l' (uG n e l' hl') m 0 ac (fun i hi=>by
         grind)
        grind
      . cases h
    . cases h
  . cases h
theorem QU {n:Nat}{t:TypeId}{c:iz}{base:Nat}{v:Value}{d:DataW H}{ps:List MemPlace}(hc:mh P n t=some [c])(hv:v.cells.toList=[v])(h:DataW.Trod enc P W base (fun _=>true) true t v d ps)(hb:base=0):∃x,Has c x/\V bare W x v:=by
 subst hb;obtain⟨fuel,hf⟩:=h;rw[hv]at hf;obtain⟨xs,h1,h2⟩:=uG n t _ hc _ _ _ hf;simp only[eh]at h1;obtain⟨x,r,rfl,h3,rfl⟩:=h1;exact⟨x,h3,h2.2 0 x v rfl rfl⟩
theorem Hx {α:Type}{f:α->List AV}{es:List iz}(hf:∀c,eh es c->∃a,c=f a):∀ls:List (List AV),(∀c∈ls,eh es c)->∃l:List α,ls.flatten=arr f l/\ls.length=l.length
 | [],_=>⟨[],rfl,rfl⟩
 | c::ls,h=>by
  obtain⟨a,rfl⟩:=hf c (h c aq);obtain⟨l,h1,h2⟩:=Hx hf ls aw;exact⟨a::l,by rw[f7,h1,kN],by simp[h2]⟩
theorem QV {α:Type}{f:α->List AV}{es:List iz}(hf:∀c,eh es c->∃a,c=f a){x:AV}(h:Has (.slice es) x):∃l:List α,x = .vs (arr f l) l.length none/\l.length<=maxLen:=by
 simp only[Has]at h;obtain⟨ls,rfl,h1,h2⟩:=h;obtain⟨l,h3,h4⟩:=Hx hf ls h2;grind
end Go.Ab
namespace Go.Ab
variable {FT:FuncId->Option cU}
variable {P:Program} {gl:Nat->Option AV}
def jq (ρ:aM):aM:=⟨fun _=>.fresh,ρ.X⟩
theorem da.jq {ρ:aM}{c:Nat}(h:¬ρ.X c):da (jq ρ) c:=⟨fun b d hb=>by simp[Go.Ab.jq]at hb,h⟩
theorem QW (hgl:∀g v,gl g=some v->v.top=0){w:World}{ρ:aM}{T:List Nat}{v v1:AV}{hh:ae}{v':Value}{w':World}(hf:Fr hh T v v1)(ht:v1.top=0)(hd:fe P gl (dK ρ []) [] w ⟨v,hh,[]⟩ v' w'):fe P gl (dK ρ []) [] w ⟨v1,[],[]⟩ v' w':=by
 obtain⟨ρ',hv,m',x⟩:=hd;have hF:∀c,da (dK ρ' T) c->da (jq ρ') c:=fun c hc=>da.jq fun hx=>hc.2 (.inl hx)
 have hF':∀c,da ρ' c->da (jq ρ') c:=fun c hc=>da.jq hc.2
 refine⟨jq ρ',(hf.view m' hv).gC (n:=0) aq hF ac,?_,?_⟩
 . refine⟨aq,fun b _=>rfl,fun b b' c d d' h1=>by simp[jq]at h1,fun b c d h1=>by simp[jq]at h1,m'.xb,fun b c d h1=>by simp[jq]at h1,fun g v hg=>?_⟩;exact(m'.gl g v hg).gC (n:=0) aq hF' aw
 . refine⟨x.os,x.tape,x.output,x.size,b8 _,x.X,aq,aq,fun b c d hb=>by simp[dK]at hb,fun b hb=>by simp[dK]at hb,fun b hb=>by simp[dK]at hb,fun c hc _=>x.cT c hc ac,fun b c d hb _=>by simp[jq]at hb,x.shape⟩
theorem QX (hgl:∀g v,gl g=some v->v.top=0){f:Nat}{as:List AV}{h:ae}{v v1:AV}{hh:ae}{T:List Nat}(ha:bz as=0)(hf:Fr hh T v v1)(ht:v1.top=0)(hloc:bl P gl ⟨f,as,[],⟨v,hh,[]⟩⟩):bl P gl ⟨f,as,h,⟨v1,h,[]⟩⟩:=by
 refine⟨⟨b8 _,fun _ _ _=>rfl⟩,fun ρ w as' m hl=>?_⟩;obtain⟨nx,w1,h1,h2⟩:=hloc.2 (dK ρ []) w as' (m.dK hgl []) ((gE.same ha).view m hl);refine⟨nx,w1,h1,h2.mono fun v w' hd=>?_⟩;have:=GW (S:=[]) (ks:=[]) (bs:=[]) m aq (.same ht) rfl aq (.inl rfl) (QW hgl hf ht hd)<;>grind
theorem QY (hs:jK P gl FT){T:List (Nat×Spec)}(hT:cB P gl (bB T)){f:Nat}{as:List AV}{h hh:ae}{B:List Nat}{v v1:AV}(hr:bg (bx P FT T) f as [] ⟨v,hh,[]⟩)(ha:bz as=0)(hf:Fr hh B v v1)(ht:v1.top=0):bl P gl ⟨f,as,h,⟨v1,h,[]⟩⟩:=
 QX hs.gl ha hf ht (rm hs hT hr ⟨ib _,fun _ hb=>aw⟩)
def mi (N:Nat):aM:=⟨fun _=>.fresh,fun c=>c<N⟩
theorem da.mi {N c:Nat}(h:N<=c):da (mi N) c:=⟨fun b d hb=>by simp[Go.Ab.mi]at hb,fun hx=>absurd hx (by show ¬c<N;omega)⟩
theorem Fr.QZ {ρ:aM}{h:ae}{w:World}(m:Mem P gl ρ h w){N:Nat}(hnew:∀b c d,ρ b = .live c d->N<=c){T:List Nat}(hT:∀b l e,b∈T->h.at b=some (.cells l e)->fE l=true){a a0:AV}(hr:Fr h T a a0):dI a=true->a0.top=0->∀{v:Value},V ρ w a v->V (mi N) w a0 v:=by
 have hat:∀{b o},h.at b=some o->h[b]? = some (some o):=fun {b o} hb=>by
  unfold ae.at at hb;grind
 have cutN:∀{l m':List AV} {off n:Nat},fE l=true->cut l off n=some m'->∀(i:Nat) x,m'[i]? = some x->dI x=true:=fun {l m' off n} hn hc i x hx=>by
  simp only[cut]at hc;grind[gR]
 induction hr with
 | same ht=>grind[GV]
 | nil hc=>
  intro _ _ v hv;cases hv;exact .fa hc
 | @sl b off len esz cap cap' l m' m0 e hb ha hc hl hg hcc ih=>
  intro _ ht v hv;simp only[AV.top]at ht;have ih':∀(i:Nat) x y,m'[i]? = some x->m0[i]? = some y->∀{v:Value},V ρ w x v->V (mi N) w y v:=fun i x y hx hy {v} hv=>
   ih i x y hx hy aw (by have:=fx (n:=0) ac i y hy;omega) hv
  have hB:=m.dm b _ (hat ha);have hcut:m'.length=len*esz/\∀i,i<m'.length->m'[i]? = l[off+i]? := by
   simp only[cut]at hc;split at hc
   . grind
   . cases hc
  cases hv with
  | @sl _ c d _ _ _ capC _ h1 h2 h3 h4=>
   have h3:∀n,cap'=some n->capC=n:=aw;rcases hB with ⟨c',d',cs,fr,g1,g2,g3,g4,g5⟩|⟨g1,_⟩
   . rw[h1]at g1;cases g1;refine .vs c (off+d) (fun i=>cs.getD (off+d+i) (.bool false)) (by grind[da.mi]) h2 h3 (fun i hi=>?_) (fun i y hy=>?_)
     . have hi':i<m'.length:=by omega
       have hlt:off+i<l.length:=by
        have:=hcut.2 i hi';rw[az hi']at this;exact(aW.1 this.symm).1
       have:off+d+i<cs.size:=by have:=g3.1;omega
       simp only[kw,g2]<;>simp_all
     . have hi:i<m0.length:=(aW.1 hy).1;have hi':i<m'.length:=by omega
       have hx:=hcut.2 i hi';rw[az hi']at hx;have hlt:off+i<l.length:=(aW.1 hx.symm).1;have hs:off+d+i<cs.size:=by have:=g3.1;omega
       refine ih' i m'[i] y (az hi') hy ?_;refine g5 (off+i) _ _ hx.symm ?_;rw[show off+i+d=off+d+i from by omega];simp_all
   grind
  | @fX _ _ h1=>
   rcases hB with ⟨c',d',cs,fr,g1,_⟩|⟨g1,g2⟩
   . grind
   . have:m0=[]:=aw;subst this;exact .fa aw
  | fm c o' h1 _ _=>
   rcases hB with ⟨c',d',cs,fr,g1,_⟩|⟨g1,g2⟩ <;> (rw[h1]at g1;cases g1)
  | fY a h1=>
   rcases hB with ⟨c',d',cs,fr,g1,_⟩|⟨g1,g2⟩ <;> (rw[h1]at g1;cases g1)
  | fJ h1=>
   rcases hB with ⟨c',d',cs,fr,g1,_⟩|⟨g1,g2⟩ <;> (rw[h1]at g1;cases g1)
 | @ptr b off l m0 e hb ha hl hg ih=>
  intro _ ht v hv;simp only[AV.top]at ht;have hB:=m.dm b _ (hat ha);cases hv with
  | @ptr _ c d _ h1=>
   rcases hB with ⟨c',d',cs,fr,g1,g2,g3,g4,g5⟩|⟨g1,_⟩
   . rw[h1]at g1;cases g1;refine .vp c (off+d) (fun i=>cs.getD (off+d+i) (.bool false)) (by grind[da.mi]) (fun i hi=>?_) (fun i y hy=>?_)
     . have:off+d+i<cs.size:=by have:=g3.1;simp at hl;omega
       simp only[kw,g2]<;>simp_all
     . have hi:i<m0.length:=(aW.1 hy).1;have hi':i<(l.drop off).length:=by omega
       have hlt:off+i<l.length:=by simp at hi';omega
       have hs:off+d+i<cs.size:=by have:=g3.1;omega
       refine ih i _ y (az hi') hy ?_ (by have:=fx (n:=0) ac i y hy;omega) ?_
       . rw[List.getElem_drop];exact gR aw (az hlt)
       . refine g5 (off+i) _ _ aq ?_;rw[show off+i+d=off+d+i from by omega];simp_all
   grind
  | eM _ c o' h1=>
   rcases hB with ⟨c',d',cs,fr,g1,_⟩|⟨g1,g2⟩ <;> (rw[h1]at g1;cases g1)
 | @vs l l0 n cap hl hg ih=>
  intro hn _ v hv;simp only[dI,gU]at hn;subst hn;have:l0=[]:=aw;subst this;cases hv with
  | vs c o g hf h2 h3 h4 h5=>exact .vs c o g aq h2 h3 aq aq
  | fa hc=>exact .fa hc
  | fK a hc=>exact .fK a hc
 | @agg l l0 hl hg ih=>
  intro hn ht v hv;simp only[dI]at hn;simp only[AV.top]at ht;cases hv with
  | @agg _ mm h1 h2=>
   refine .agg ac fun i y z hy hz=>?_
   have hi:i<l.length:=by have:=(aW.1 hy).1;omega
   exact ih i _ y (az hi) hy (gR hn (az hi)) (by have:=fx (n:=0) ac i y hy;omega) (h2 i _ z (az hi) hz)
 | @ay l l0 hl hg ih=>
  intro hn ht v hv;simp only[dI]at hn;simp only[AV.top]at ht;cases hv with
  | @ay _ mm h1 h2=>
   refine .ay ac fun i y z hy hz=>?_
   have hi:i<l.length:=by have:=(aW.1 hy).1;omega
   exact ih i _ y (az hi) hy (gR hn (az hi)) (by have:=fx (n:=0) ac i y hy;omega) (h2 i _ z (az hi) hz)
 | @fn f fi fi0 ca ca0 hf h1 h2 g1 g2 ih1 ih2=>
  intro hn ht v hv;simp only[dI,aZ]at hn;have hh:bz fi0<=0/\bz ca0<=0:=by
   cases f <;> simp only[AV.top]at ht <;> exact⟨ac,ac⟩
  cases hv with
  | fn hf' a1 a2 a3 a4=>
   refine .fn hf ac ac (fun i y z hy hz=>?_) (fun i y z hy hz=>?_)
   . have hi:i<fi.length:=by have:=(aW.1 hy).1;omega
     exact ih1 i _ y (az hi) hy (gR hn.1 (az hi)) (by have:=fx hh.1 i y hy;omega) (a3 i _ z (az hi) hz)
   . have hi:i<ca.length:=by have:=(aW.1 hy).1;omega
     exact ih2 i _ y (az hi) hy (gR hn.2 (az hi)) (by have:=fx hh.2 i y hy;omega) (a4 i _ z (az hi) hz)
  | yield _=>grind
  | gY _ _=>grind
theorem Ra {w:World}{ρ:aM}{h:ae}(m:Mem P gl ρ h w){S T:List Nat}{v v1:AV}{hh:ae}{v':Value}{w':World}(hf:Fr hh T v v1)(hn:dI v=true)(hT:∀b l e,b∈T->hh.at b=some (.cells l e)->fE l=true)(ht:v1.top=0)(hd:fe P gl (dK ρ S) [] w ⟨v,hh,[]⟩ v' w'):fe P gl ρ h w ⟨v1,h,[]⟩ v' w':=by
 obtain⟨ρ',hv,m',x⟩:=hd;have cT:∀c,c<w.heap.size->w'.heap[c]? = w.heap[c]? := fun c hc=>x.cT c hc fun b d hb=>by simp[Go.Ab.dK]at hb
 have new:∀b c d,ρ' b = .live c d->w.heap.size<=c:=fun b c d hb=>by
  rcases bc c w.heap.size with hc|hc
  . rcases x.back b c d hb hc with h1|⟨b0,d0,h1,_⟩ <;> simp[Go.Ab.dK]at h1
  omega
 have hV:=hf.QZ m' new hT hn ht hv;have hF:∀c,da (mi w.heap.size) c->da ρ c:=fun c hc=>by
  have hge:w.heap.size<=c:=by
   rcases bc c w.heap.size with h|h
   . exact absurd h hc.2
   . exact h
  exact⟨fun b d hb=>by have:=m.bound b c d hb;omega,fun hx=>by have:=m.xb c hx;omega⟩
 have E:Ext h h ρ ρ w w':=⟨x.os,x.tape,x.output,x.size,b8 _,rfl,fun _ h=>h,fun _ _=>rfl,aw,fun _ h=>h,aw,aw,aw,x.shape⟩;refine⟨ρ,hV.gC (n:=0) aq hF ac,m.ext E ?_ m.fresh m.inj ?_,E⟩
 . intro b o hb;exact(m.dm b o hb).mono E rfl fun c d hl=>cT c (m.bound b c d hl)
 . intro b c d hb;exact dr (m.bound b c d hb) x.size
theorem Rb (hs:jK P gl FT){T:List (Nat×Spec)}(hT:cB P gl (bB T)){f:Nat}{as as0:List AV}{h hh:ae}{S B:List Nat}{v v1:AV}(hr:bg (bx P FT T) f as0 [] ⟨v,hh,[]⟩)(hv:gE h S as as0)(hf:Fr hh B v v1)(hn:dI v=true)(hB:∀b l e,b∈B->hh.at b=some (.cells l e)->fE l=true)(ht:v1.top=0):bl P gl ⟨f,as,h,⟨v1,h,[]⟩⟩:=by
 have hloc:=rm hs hT hr ⟨ib _,fun _ hb=>aw⟩;refine⟨⟨b8 _,fun _ _ _=>rfl⟩,fun ρ w as' m hl=>?_⟩;obtain⟨nx,w1,h1,h2⟩:=hloc.2 (dK ρ S) w as' (m.dK hs.gl S) (hv.view m hl);exact⟨nx,w1,h1,h2.mono (by grind[Ra])⟩
def kl (hh:ae)(v v1:AV):Prop:=∃B,Fr hh B v v1/\dI v=true/\∀b l e,b∈B->hh.at b=some (.cells l e)->fE l=true
theorem kl.same {hh:ae}{v:AV}(ht:v.top=0)(hn:dI v=true):kl hh v v:=⟨[],.same ht,hn,aq⟩
theorem kl.nil {hh:ae}:kl hh .ab (.vs [] 0 none):=⟨[],.nil aq,rfl,aq⟩
theorem Rc (hs:jK P gl FT){T:List (Nat×Spec)}(hT:cB P gl (bB T)){f:Nat}{as as0:List AV}{h hh:ae}{S:List Nat}{v v1:AV}(hr:bg (bx P FT T) f as0 [] ⟨v,hh,[]⟩)(hv:gE h S as as0)(hf:kl hh v v1)(ht:v1.top=0):bl P gl ⟨f,as,h,⟨v1,h,[]⟩⟩:=by
 obtain⟨B,h1,h2,h3⟩:=hf;grind[Rb]
end Go.Ab
