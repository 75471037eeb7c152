/-
  Own work: a call of a function value, what is asked of it, and one operation of a region walked.
-/
import Derived.Test.YtmngppcmhfhgaaaGreatDoorLib0
import Derived.RangeFuncLeaves
import Derived.Laws.Externs
import Derived.WalkKit
import Derived.Carry
import Derived.OpenShut
import Derived.ChangeSame
import Derived.Laws.RangeString
import Derived.Lib.DecodeN
import Derived.Deep.Slices
import Derived.Deep.Strs
open Array renaming getD_eq_getD_getElem?→cC,getElem?_eq_some_iff→i6,replicate→j0,toArray_toList→j1,getD→j5,toList_map→kO
open Bool renaming and_eq_true→br,false_eq_true→b9,eq_false_iff→d6,and_true→d8,true_or→jN
open Classical renaming em→j9,choose→k9
open List renaming getElem?_eq_some_iff→be,getElem?_eq_getElem→bj,mem_cons→cP,getElem?_append_left→cZ,all_eq_true→c5,getElem?_set→c7,ext_getElem?→c9,mem_append→dc,nil_append→de,take_of_length_le→dg,length_append→du,getElem?_map→d7,replicate→fo,getElem?_append_right→fu,length_cons→f6,drop_eq_getElem_cons→f7,length_nil→f9,all_nil→gF,getElem?_eq_none→gT,any_eq_true→ii,cons_append→ip,isEmpty_nil→iq,getElem?_mapIdx→iH,mem_singleton→i5,flatMap_cons→i7,flatten_cons→i8,getElem?_cons_succ→i9,isEmpty_iff→je,drop_eq_nil_of_le→jt,getElem?_append→j2,replicate_succ→j4,getElem?_inj→j6,lookup_cons→kT,drop_append→lc,take_append→le,length_take→li,foldl_cons→m5,length_map→m6,mapM_cons→m7,drop_drop→m8,range→m9,all_cons→ne,take_add→nk
open Nat renaming lt_or_ge→bA,le_refl→c6,beq→d9,le_max_right→eA,le_max_left→eL,lt_of_lt_of_le→gc,add_sub_cancel_left→gC,zero_add→gD,eq_of_beq_eq_true→g9,beq_eq→jj,strongRecOn→jV,zero_le→j3,add_zero→j7,lt_trichotomy→j8,add_mul→mp
open Option renaming map_eq_some_iff→bZ,some→ce,bind_some→ci,map_some→cD
open Prod renaming mk→jg
open Go.Result renaming andThen_ok→cT
open Go.Sem renaming run_bind→dz,run_pure→fY
open Go.Value renaming okWide→iI,iface→l9,cells→n3,slice→n4
open Go.World renaming cells?_some→kw,cell?→nD
set_option maxHeartbeats 8000000
set_option maxRecDepth 20000
namespace Go.Ab
variable {P:Program} {gl:Nat->Option AV} {ρ:aW} {w:World} {h:ab} {C:Cx} {s:St} {a:Act}
def FR (ro:Option Nat):Fence:={ fn:=fun _=>True,depth:=none,alive:=false,round:=ro }
def kc (P:Program)(nx:Next)(w1:World)(R:Value->World->Prop):Prop:=
 match nx with
 | .value v=>R v w1
 | .enter f args=>CallsIn Fence.wide 0 P f args w1 fun
   | .returned v,w'=>R v w'
   | _,_=>False
 | .round l f tmps as bd=>RoundIn Fence.wide 0 P l f tmps as bd w1 fun
   | .returned v,w'=>R v w'
   | _,_=>False
 | _=>False
def ox (g':Value)(as':Array Value):Sem Next:=do
 let d ←Deferred.ofValue g' as'
 invoke d.target d.args
def gk (h:ab)(r:HR):Prop:=h.length<=r.h.length/\∀b,b<h.length->b∉r.wr->r.h[b]? = h[b]?
structure nd (P:Program)(gl:Nat->Option AV)(call:fc):Prop where
 wr:∀g as h r,call g as h=some r->gk h r
 ok:∀g as h r,call g as h=some r->∀ρ w g' (as':List Value),Mem P gl ρ h w->V ρ w g g'->VL ρ w as as' ->
  ∃nx w1,(ox g' as'.toArray).run P w = .ok nx w1/\kc P nx w1 fun v w'=>fE P gl ρ h w r v w'
theorem HC {ro:Option Nat}{o:Oper}{a:Act}{next:Act->World->Prop}{Q:Exit->Act->World->Prop}{nx:Next}{w1:World}{R:Value->World->Prop}
 (h:kc P nx w1 R) (hn:∀v w',R v w'->next (a.put o.dst v) w'):o.uponIn (FR ro) 0 P a next Q (.ok nx w1):=by
 cases nx <;> simp only[kc]at h
 case value v=>exact hn _ _ h
 case enter f args=>
  refine⟨fun hd=>(by cases hd),CallsIn.mono (F:=Fence.wide) (n:=0) h ?_⟩<;>grind
 case round l f tmps as bd=>
  refine⟨fun hd=>(by cases hd),RoundIn.mono (F:=Fence.wide) (n:=0) h ?_⟩<;>grind
theorem RX {t:TypeId}{name:String}{f:FuncId}(h:fP P t name=some f)(n:Nat)(v:Value):(method (n+1) t v name).run P w = .ok (f,v) w:=by
 unfold fP at h;split at h
 . rename_i i u hi hu;split at h
   . rename_i m hm;rw[Array.find?_toList]at hm;split at h
     . rename_i f' ptr hf hp;have hp':m.path.isEmpty=true:=by
        cases hq:m.path with|mk l=>grind
       unfold method;simp only[dz,vz hi,cT,hm,hp,follow,fY,hf];split at h
       . rename_i e;cases h;simp[receiverAt,cE hu,Place.get]
       . cases h
       . rename_i hne;cases h;unfold receiverAt;cases u <;> first|(exact absurd rfl (hne _))|simp[cE hu,Place.get]
       . cases h
     . cases h
   . cases h
 . cases h
theorem RY (n:Nat):∃k,n+Made.depth=k+1:=by
 have:0<Made.depth:=by decide
 exact⟨n+Made.depth-1,ac⟩
theorem HD (f:FuncId)(args:Array Value)(R:Value->World->Prop):(∃nx w1,(ox (.func (.func f) #[] #[]) args).run P w = .ok nx w1/\kc P nx w1 R)->∃nx w1,(callFunc f args).run P w = .ok nx w1/\kc P nx w1 R:=by
 rintro⟨nx,w1,h1,h2⟩;refine⟨nx,w1,?_,h2⟩;simpa[ox,Deferred.ofValue,invoke] using h1
theorem HE {call:fc}(hcall:nd C.P C.gl call)(r:Rel C ρ s a w){o:Oper}{io:bI}(hc:jJ C o=some io){q:HR}(hq:cz call (fP C.P) s io=some q){ro:Option Nat}
 {next:Act->World->Prop} {Q:Exit->Act->World->Prop} (hn:∀v' w',fE C.P C.gl ρ s.hp w q v' w'->next (a.put o.dst v') w'):o.wpIn (FR ro) 0 C.P a w next Q:=by
 refine⟨fun _ _=>trivial,?_⟩;have hnd:∀c,o.op≠.defer c:=by
  intro c hd;unfold jJ at hc;rw[hd]at hc;cases hc
 rw[Oper.semAt_eq _ _ _ hnd];by_cases hcl:(∃f args,io = .call f args)\/∃x name args,io = .invoke x name args
 . obtain⟨dst,op,ty,pos,af,gd⟩:=o;cases op
   case call c=>
    obtain⟨callee,args,ats⟩:=c;cases callee with
    | value f=>
     simp only[jJ]at hc;split at hc
     . rename_i f' as' h1 h2;cases hc;simp only[cz]at hq;split at hq
       . rename_i g as h3 h4;obtain⟨nx,w1,h5,h6⟩:=hcall.ok _ _ _ _ hq ρ w _ _ r.mem (r.ae h1 h3) (r.db h2 h4);have he:(execOp a.eval ⟨dst,.call ⟨.value f,args,ats⟩,ty,pos,af,gd⟩).run C.P w = .ok nx w1:=by
          have e2:args.map a.eval=(args.toList.map a.eval).toArray:=by rw[←kO,j1]
          simp only[execOp,resolve,e2];exact h5
         grind[HC]
       grind
     grind
    | invoke x name=>
     simp only[jJ]at hc;split at hc
     . rename_i x' as' h1 h2;cases hc;simp only[cz]at hq;split at hq
       . rename_i t v as h3 h4;split at hq
         . rename_i f hf;have e1:=r.ae h1 h3;generalize hxv:a.eval x=xv at e1;cases e1 with
           | @iface _ _ v' hv=>
            have e2:args.map a.eval=(args.toList.map a.eval).toArray:=by rw[←kO,j1]
            obtain⟨nx,w1,h5,h6⟩:=hcall.ok _ _ _ _ hq ρ w (.func (.func f) #[] #[]) (v'::args.toList.map a.eval) r.mem (.fn (fi':=[]) (ca':=[]) ax rfl rfl ax ax) (.cons hv (r.db h2 h4));obtain⟨nx',w1',h7,h8⟩:=HD f _ _ ⟨nx,w1,h5,h6⟩;have he:(execOp a.eval ⟨dst,.call ⟨.invoke x name,args,ats⟩,ty,pos,af,gd⟩).run C.P w = .ok nx' w1':=by
             obtain⟨k,hk⟩:=RY C.P.types.size;have hm:=RX (P:=C.P) (w:=w) hf k v';rw[←hk]at hm;have e3:(#[v']++(args.toList.map a.eval).toArray:Array Value)=(v'::args.toList.map a.eval).toArray:=by simp
             have e4:((#[l9 t v']++(args.toList.map a.eval).toArray:Array Value)).extract 1 (#[l9 t v']++(args.toList.map a.eval).toArray).size=(args.toList.map a.eval).toArray:=by
              simp;exact dg ax
             have e5:(#[l9 t v']++(args.toList.map a.eval).toArray:Array Value)[0]? = some (.iface t v'):=by simp
             simp only[execOp,resolve,e2,hxv,dz,fY,cT,invoke];rw[e4,e5];simp only[callMethod,dz,run_program,cT,hm,e3];exact h7
            grind[HC]
         grind
       grind
     grind
    | builtin b=>
     exfalso;simp only[jJ]at hc<;>grind
   case makeMap t res=>
    exfalso;cases res with
    | some _=>cases hc
    | none=>cases hc;grind
   case next x st=>
    exfalso;cases st with
    | false=>cases hc
    | true=>
     simp only[jJ,bZ]at hc<;>grind
   all_goals
    exfalso;simp only[jJ]at hc;repeat' (first|(cases hc;done)|split at hc)
    all_goals first
     | (cases hc;rcases hcl with ⟨_,_,h⟩|⟨_,_,_,h⟩ <;> cases h;done)
     | (simp only[bZ]at hc;obtain⟨_,_,rfl⟩:=hc;rcases hcl with ⟨_,_,h⟩|⟨_,_,_,h⟩ <;> cases h)
 . have hq':(if io.bU then cg s io s.hp else (bF s io).map fun v=>⟨v,s.hp,[]⟩)=some q:=by
    cases io <;> first|exact hq|(exfalso;exact hcl (.inl ⟨_,_,rfl⟩))|grind
   split at hq'
   . rename_i hh;obtain⟨v',w',h1,h2⟩:=RW r hc hh hq';rcases h1 with h1|⟨h1,rfl⟩
     . rw[h1];exact hn _ _ h2
     . rw[h1];exact hn _ _ h2
   . rename_i hh;simp only[bZ]at hq';obtain⟨v,h1,rfl⟩:=hq';obtain⟨v',h2,h3⟩:=Rg r hc bc h1;rw[h2];exact hn _ _ (jd r.mem h3)
theorem oy {x:Array Value}{t u:Nat}{v d:Value}:(x.setIfInBounds t v).getD u d=if u=t/\t<x.size then v else x.getD u d:=by
 simp only[cC,Array.getElem?_setIfInBounds]<;>grind
theorem Bc {er:ER C ρ w s.pe s.lo a.tmps}{dst:Option Tmp}{d:fN}(hd:lC C dst=some d){x:AV}{v:Value}(hv:V ρ w x v)(h:ab) :
 ER C ρ w ({ s.put d x with hp:=h }:St).pe ({ s.put d x with hp:=h }:St).lo (a.put dst v).tmps:=by
 cases dst with
 | none=>cases hd;exact er
 | some t=>
  simp only[lC]at hd;split at hd
  . rename_i hlt;split at hd
    . rename_i i hi;cases hd;have hti:=vw hi;refine⟨by simp[Act.put,er.size],er.nodup,er.lt,by simpa[St.put] using er.lE,fun j y u h1 h2=>?_,fun u y h1=>?_⟩
      . simp only[St.put,c7]at h1;simp only[Act.put,oy];by_cases hij:i=j
        . subst hij;rw[if_pos rfl]at h1;rw[hti]at h2;cases h2;split at h1
          . cases h1;rw[if_pos ⟨rfl,by rw[er.size];exact hlt⟩];exact hv
          grind
        . rw[if_neg hij]at h1;have:u≠t:=fun e=>by
           subst e;exact hij ((j6 (be.1 hti).1 er.nodup).1 bc)
          rw[if_neg ac];exact er.pe j y u h1 h2
      . simp only[St.put]at h1;obtain⟨g1,g2,g3⟩:=er.lo u y h1;refine⟨g1,g2,?_⟩;simp only[Act.put,oy]<;>grind
    . rename_i hi;cases hd;have hnt:=vy hi;refine⟨by simp[Act.put,er.size],er.nodup,er.lt,by simpa[St.put] using er.lE,fun j y u h1 h2=>?_,fun u y h1=>?_⟩
      . simp only[St.put]at h1;simp only[Act.put,oy];have:u≠t:=bc;rw[if_neg ac];exact er.pe j y u h1 h2
      . simp only[St.put,kT]at h1;simp only[Act.put,oy];split at h1
        . rename_i e;simp only[beq_iff_eq]at e;subst e;cases h1;exact⟨hlt,hnt,by rw[if_pos ⟨rfl,by rw[er.size];exact hlt⟩];exact hv⟩
        . rename_i e;simp only[beq_eq_false_iff_ne]at e;obtain⟨g1,g2,g3⟩:=er.lo u y h1<;>grind
  grind
theorem Bd (r:Rel C ρ s a w){ops:Array Oper}{o:Oper}{g:Option (aZ×Bool)}(hg:vo C ops.toList o.guard=some g){b:Bool}(hb:fl s g=some b):Region.wanted o (yielded ops a.tmps)=b:=by
 unfold Region.wanted;cases ho:o.guard with
 | none=>rw[ho]at hg;cases hg;cases hb;rfl
 | some jw=>
  obtain⟨j,want⟩:=jw;rw[ho]at hg;simp only[vo]at hg;split at hg
  . rename_i oj hj;split at hg
    . rename_i t ht;simp only[bZ]at hg;obtain⟨y,hy,rfl⟩:=hg;simp only[fl]at hb;have hj':ops[j]? = some oj:=by simpa using hj
      have key:∀v,s.ae y=some v->V ρ w v (a.tmps.getD t undef):=fun v hv=>r.ae hy hv
      simp only[yielded,hj',ci,ht];split at hb
      . rename_i c hc;have:=key _ hc;cases hb;have e:=this.mU;rw[cC]at e;cases hq:a.tmps[t]? with
        | none=>rw[hq]at e;simp[undef]at e
        | some z=>grind
      . rename_i l hl;have:=key _ hl;cases hb;obtain⟨m,e,_⟩:=this.Hc;rw[cC]at e;grind
      grind
    grind
  grind
end Go.Ab
namespace Go.Ab
variable {s:St}
variable {h:ab}
theorem qC (v:AV):gk h ⟨v,h,[]⟩:=⟨c6 _,fun _ _ _=>rfl⟩
theorem Be (v:AV)(l:ab)(wr:List Nat):gk h ⟨v,h++l,wr⟩:=⟨ax,fun b hb _=>cZ hb⟩
theorem HF (v:AV)(b:Nat)(o:Option bV):gk h ⟨v,h.put b o,[b]⟩:=by
 refine⟨by simp[ab.put],fun b' _ hn=>?_⟩;simp only[i5]at hn;exact mT hn
theorem HG (v:AV)(b:Nat)(o:Option bV)(l:ab):gk h ⟨v,h.put b o++l,[b]⟩:=by
 refine⟨by simp[ab.put],fun b' hb hn=>?_⟩;simp only[i5]at hn;rw[cZ (by simpa[ab.put] using hb)];exact mT hn
theorem RZ {elem:TypeId}{esz bytes:Nat}{x y:AV}{q:HR}(hq:mq elem esz bytes h x y=some q):gk h q:=by
 unfold mq at hq;repeat' (first|(cases hq;done)|split at hq)
 all_goals (cases hq;first|exact qC _|exact Be _ _ _|exact HF _ _ _|grind[HG])
theorem Sa {io:bI}{q:HR}(hq:cg s io h=some q):gk h q:=by
 cases io <;> simp only[cg]at hq;all_goals first|(cases hq;done)|skip
 all_goals repeat' (first|(cases hq;done)|exact RZ hq|split at hq)
 all_goals (cases hq;first|exact qC _|exact Be _ _ _|exact HF _ _ _|exact HG _ _ _ _)
theorem Bf {call:fc}{inv:fy}(hcall:∀g as h r,call g as h=some r->gk h r){s:St}{io:bI}{q:HR}(hq:cz call inv s io=some q):gk s.hp q:=by
 unfold cz at hq;grind[Sa,bZ,qC]
theorem vI {s s':St}:∀{ps:List (Nat×Nat×aZ)},(∀x∈vj ps,s.ae x=s'.ae x)->s.parts ps=s'.parts ps
 | [],_=>rfl
 | (o,n,x)::r,h=>by
  simp only[vj,cP,forall_eq_or_imp]at h;simp only[St.parts,h.1,vI h.2]
theorem oz {s s':St}:∀{xs:List aZ},(∀x∈xs,s.ae x=s'.ae x)->s.db xs=s'.db xs
 | [],_=>rfl
 | x::r,h=>by
  simp only[cP,forall_eq_or_imp]at h;simp only[St.db,h.1,oz h.2]
theorem sH {s':St}{x:Option aZ}(h:∀y∈x.toList,s.ae y=s'.ae y):s.fg x=s'.fg x:=by
 cases x with
 | none=>rfl
 | some y=>simp only[St.fg,h y ax]
theorem HH {call:fc}{inv:fy}{s':St}{io:bI}(hh:s.hp=s'.hp)(h:∀x∈io.iD,s.ae x=s'.ae x):cz call inv s io=cz call inv s' io:=by
 cases io
 case slice k esz x lo hi mx=>
  simp only[bI.iD,cP,dc,forall_eq_or_imp]at h;have h1:=h.1;have h2:s.fg lo=s'.fg lo:=sH bc;have h3:s.fg hi=s'.fg hi:=sH bc;have h4:s.fg mx=s'.fg mx:=sH bc;simp only[cz,bI.bU,bF,b9,if_false,hh,h1,h2,h3,h4]
 case qe n esz x lo hi=>
  simp only[bI.iD,cP,dc,forall_eq_or_imp]at h;have h1:=h.1;have h2:s.fg lo=s'.fg lo:=sH bc;have h3:s.fg hi=s'.fg hi:=sH bc;simp only[cz,bI.bU,cg,if_true,hh,h1,h2,h3]
 case se f fi ca=>
  simp only[bI.iD,dc]at h;have h1:s.db fi=s'.db fi:=oz bc;have h2:s.db ca=s'.db ca:=oz bc;simp only[cz,bI.bU,bF,b9,if_false,hh,h1,h2]
 case build zero ps=>
  have h1:s.parts ps=s'.parts ps:=vI h;simp only[cz,bI.bU,bF,b9,if_false,hh,h1]
 case dW elem len esz zero ps=>
  have h1:s.parts ps=s'.parts ps:=vI h;simp only[cz,bI.bU,cg,if_true,hh,h1]
 case mm mx xs=>
  have h1:s.db xs=s'.db xs:=oz h;simp only[cz,bI.bU,bF,b9,if_false,hh,h1]
 case call f as=>
  simp only[bI.iD,cP,forall_eq_or_imp]at h;have h1:=h.1;have h2:s.db as=s'.db as:=oz h.2;simp only[cz,hh,h1,h2]
 case invoke f name as=>
  simp only[bI.iD,cP,forall_eq_or_imp]at h;have h1:=h.1;have h2:s.db as=s'.db as:=oz h.2;simp only[cz,hh,h1,h2]
 all_goals
  simp only[bI.iD,cP,List.not_mem_nil,or_false,forall_eq_or_imp,forall_eq]at h;simp only[cz,bI.bU,cg,bF,b9,if_false,if_true,hh,h]
theorem kJ (wr:List Nat):∀(h h':ab) (i b:Nat),h.length<=h'.length ->
 (gg wr h h' i)[b]? = if b<h.length then (if wr.contains (b+i) then h'[b]? else h[b]?) else h'[b]?
 | [],h',i,b,_=>by rfl
 | o::h,[],i,b,hl=>by simp at hl
 | o::h,n::h',i,b,hl=>by
  cases b with
  | zero=>simp[gg];grind
  | succ b=>
   simp only[gg,i9,f6];rw[kJ wr h h' (i+1) b bc];grind
theorem sI (wr:List Nat):∀(h h':ab) (i:Nat),h.length<=h'.length->(gg wr h h' i).length=h'.length
 | [],h',i,_=>by rfl
 | o::h,[],i,hl=>by simp at hl
 | o::h,n::h',i,hl=>by simp[gg,sI wr h h' (i+1) (by simpa using hl)]
end Go.Ab
namespace Go.Ab
variable {P:Program} {gl:Nat->Option AV} {ρ:aW} {w:World} {h:ab} {C:Cx} {s:St} {a:Act}
theorem HI {L:List Oper}{o:Oper}{io:bz}(h:vt C L o=some io):lC C o.dst=some io.dst/\jJ C o=some io.op/\vo C L o.guard=some io.guard:=by
 unfold vt at h;grind
theorem sJ {L:List Oper}:∀{l:List Oper} {il:List bz},kE C L l=some il->il.length=l.length/\∀(i:Nat) (o:Oper),l[i]? = some o->∃io,il[i]? = some io/\vt C L o=some io
 | [],il,h=>by simp only[kE,ce.injEq]at h;grind
 | o::r,il,h=>by
  simp only[kE]at h;split at h
  . rename_i io l h1 h2;cases h;obtain⟨g1,g2⟩:=sJ h2<;>grind
  . cases h
theorem Sb {call:fc}(hcall:nd C.P C.gl call){ro:Option Nat}{ops:Array Oper}{il:List bz}(hil:kE C ops.toList ops.toList=some il){Q:Exit->Act->World->Prop} :
 ∀(m k:Nat) (s s':au) (ρ:aW) (a:Act) (w:World),k+m=ops.size->Rel C ρ s.s a w->fH call (fP C.P) (il.drop k) s=some s' ->
  (∀ρ' a' w',Rel C ρ' s'.s a' w'->Ext s.s.hp s'.s.hp ρ ρ' w w'->a'.defers=a.defers->Q .normal a' w')->wpOpsIn (FR ro) 0 C.P ops Q (List.range' k m) a w:=by
 obtain⟨hlen,hget⟩:=sJ hil;intro m;induction m with
 | zero=>
  intro k s s' ρ a w hk r hq hQ;have:il.drop k=[]:=by
   rw[List.drop_eq_nil_iff];simp at hlen;omega
  rw[this]at hq;cases hq;simp only[List.range'_zero,wpOpsIn];exact hQ ρ a w r (Ext.refl _ _ _) rfl
 | succ m ih=>
  intro k s s' ρ a w hk r hq hQ;have hklt:k<ops.size:=by omega
  obtain⟨io,h1,h2⟩:=hget k ops[k] ax;obtain⟨hd,hop,hg⟩:=HI h2;have hdrop:il.drop k=io::il.drop (k+1):=by
   have hk':k<il.length:=(be.1 h1).1;rw[f7 hk'];congr 1;exact(be.1 h1).2
  rw[hdrop]at hq;simp only[fH]at hq;simp only[List.range'_succ,wpOpsIn];have ho:ops[k]? = some ops[k]:=by simp[hklt]
  rw[ho];simp only;split at hq
  . rename_i hw;rw[if_pos (Bd r hg hw)];split at hq
    . rename_i q hq1;refine HE hcall r hop hq1 ?_;rintro v' w' ⟨ρ',hv,m',x⟩;refine ih (k+1) _ s' ρ' _ w' ac ⟨Bc (er:=r.er.mono x) hd hv _,m'⟩ hq ?_;intro ρ2 a2 w2 r2 x2 hd2;refine hQ ρ2 a2 w2 r2 (x.trans x2) (hd2.trans ?_);unfold Act.put;grind
    grind
  . rename_i hw;rw[if_neg (by grind[Bd])];refine⟨fun _ _=>trivial,ih (k+1) _ s' ρ _ w ac ⟨?_,?_⟩ hq ?_⟩
    . exact Bc (er:=r.er) hd V.undef s.s.hp
    . have:(s.s.put io.dst cM).hp=s.s.hp:=by cases io.dst <;> rfl
      rw[this];exact r.mem
    . intro ρ2 a2 w2 r2 x2 hd2;have:(s.s.put io.dst cM).hp=s.s.hp:=by cases io.dst <;> rfl
      simp only[this]at x2;refine hQ ρ2 a2 w2 r2 x2 (hd2.trans ?_);unfold Act.put;grind
  grind
theorem Rel.Sc (r:Rel C ρ s a w):Rel C ρ { s with lo:=[] } a w:=
 ⟨⟨r.er.size,r.er.nodup,r.er.lt,r.er.lE,r.er.pe,ax⟩,r.mem⟩
theorem Sd {call:fc}(hcall:nd C.P C.gl call){ro:Option Nat}{id:Nat}{ops:Array Oper}{il:List bz}(hil:kE C ops.toList ops.toList=some il){Q:Exit->Act->World->Prop}
 {s s':au} (r:Rel C ρ s.s a w) (hq:fH call (fP C.P) il ⟨{ s.s with lo:=[] },s.wr⟩=some s')
 (hQ:∀ρ' a' w',Rel C ρ' s'.s a' w'->Ext s.s.hp s'.s.hp ρ ρ' w w'->a'.defers=a.defers->Q .normal a' w'):(Code.region id ops false).wpIn (FR ro) 0 C.P Q a w:=by
 refine wpIn_region ?_;rw[List.range_eq_range'];exact Sb hcall hil ops.size 0 _ s' ρ a w ac r.Sc hq hQ
end Go.Ab
namespace Go.Ab
structure vJ (call:fc)(inv:fy)(st:Nat->au)(h0:Nat->ab)(r:Nat->HR)(k:Nat)(o:bz)(un:List Nat):Prop where
 wanted:∃b,fl (st k).s o.guard=some b/\(b=true->cz call inv { (st k).s with hp:=h0 k } o.op=some (r k))/\(b=false->r k=⟨cM,h0 k,[]⟩)
 len:(h0 k).length=(st k).s.hp.length
 known:∀(b:Nat) x,(h0 k)[b]? = some (some x)->(st k).s.hp[b]? = some (some x)
 off:∀(b:Nat) x,(h0 k)[b]? = some (some x)->∀j∈un,j<k->b∉(r j).wr/\¬((st j).s.hp.length<=b/\b<(r j).h.length)
 sM:∀b∈(r k).wr,∃x,(h0 k)[b]? = some (some x)
 Se:∀j∈un,j<k->∀b∈(r k).wr,∀x,(h0 j)[b]? ≠ some (some x)
 next:st (k+1)=⟨{ (st k).s.put o.dst (r k).v with hp:=gg (r k).wr (st k).s.hp (r k).h 0 },(r k).wr++(st k).wr⟩
theorem oC (T:List Nat):∀(h:ab) (i b:Nat),(fz T h i)[b]? = (h[b]?).map fun o=>if T.contains (b+i) then o else none
 | [],i,b=>by rfl
 | o::h,i,b=>by
  cases b with
  | zero=>simp[fz]
  | succ b=>simp only[fz,i9];rw[oC T h (i+1) b,show b+(i+1)=b+1+i from by omega]
theorem gR (T:List Nat):∀(h:ab) (i:Nat),(fz T h i).length=h.length
 | [],i=>rfl
 | o::h,i=>by simp[fz,gR T h (i+1)]
theorem Bg:∀(U:List Nat) (h:ab) (b:Nat),(mask h U)[b]? = if b∈U then (h[b]?).map fun _=>none else h[b]?
 | [],h,b=>by rfl
 | u::U,h,b=>by
  have:=Bg U (h.set u none) b;unfold mask at this ⊢;rw[m5,this];simp only[c7,cP];by_cases hu:u=b
  . subst hu;by_cases hl:u<h.length
    . simp[hl]
    . simp[hl]
  . rw[if_neg hu];have:(b=u)↔False:=⟨fun e=>hu e.symm,False.elim⟩;simp[this]
theorem HJ:∀(U:List Nat) (h:ab),(mask h U).length=h.length
 | [],h=>rfl
 | u::U,h=>by
  have:=HJ U (h.set u none);unfold mask at this ⊢;rw[m5,this];simp
theorem Sf {d:cJ}{b:Nat}:b∈d.own↔b∈d.wr\/(d.lo<=b/\b<d.hi):=by
 unfold cJ.own;grind
def HK (st:Nat->au)(h0:Nat->ab)(r:Nat->HR)(ds:List cJ):Prop:=
 ∀j d,ds[j]? = some d->d.wr=(r j).wr/\d.lo=(st j).s.hp.length/\d.hi=(r j).h.length/\∀T,d.lj=some T->∀(b:Nat) x,(h0 j)[b]? = some (some x)->b∈T
theorem HL {a b:List Nat}(h:jl a b=true):∀x∈a,x∉b:=by
 intro x hx hb;have:=c5.1 h x hx<;>grind
theorem trace {call:fc}{inv:fy}:∀(l:List (bz×List Nat)) (s:au) (ds:List cJ) (s':au) (st0:Nat->au) (h00:Nat->ab) (r00:Nat->HR),HK st0 h00 r00 ds->eK call inv l s ds=some s' ->
 ∃st h0 r,(∀j,j<ds.length->st j=st0 j/\h0 j=h00 j/\r j=r00 j)/\st ds.length=s/\st (ds.length+l.length)=s' /\
  ∀k o un,l[k]? = some (o,un)->vJ call inv st h0 r (ds.length+k) o un
 | [],s,ds,s',st0,h00,r00,hds,hq=>by
  simp only[eK,ce.injEq]at hq;subst hq;refine⟨fun j=>if j=ds.length then s else st0 j,h00,r00,fun j hj=>⟨bc,rfl,rfl⟩,ax,ax,ax⟩
 | (o,un)::rest,s,ds,s',st0,h00,r00,hds,hq=>by
  have fin:∀(g0:ab) (q:HR) (t:Option (List Nat)) (b:Bool),fl s.s o.guard=some b->(b=true->cz call inv { s.s with hp:=g0 } o.op=some q)->(b=false->q=⟨cM,g0,[]⟩) ->
   g0.length=s.s.hp.length->(∀(b:Nat) x,g0[b]? = some (some x)->s.s.hp[b]? = some (some x)) ->
   (∀(b:Nat) x,g0[b]? = some (some x)->∀j∈un,∀d,ds[j]? = some d->b∉d.own)->(∀b∈q.wr,∃x,g0[b]? = some (some x)) ->
   (∀j∈un,∀d,ds[j]? = some d->∀b∈q.wr,∃T,d.lj=some T/\b∉T)->(∀T,t=some T->∀(b:Nat) x,g0[b]? = some (some x)->b∈T) ->
   eK call inv rest ⟨{ s.s.put o.dst q.v with hp:=gg q.wr s.s.hp q.h 0 },q.wr++s.wr⟩ (ds++[⟨t,q.wr,s.s.hp.length,q.h.length⟩])=some s' ->
   ∃st h0 r,(∀j,j<ds.length->st j=st0 j/\h0 j=h00 j/\r j=r00 j)/\st ds.length=s/\st (ds.length+((o,un)::rest).length)=s' /\
    ∀k o' un',((o,un)::rest)[k]? = some (o',un')->vJ call inv st h0 r (ds.length+k) o' un':=by
   intro g0 q t b hw h1 h2 h3 h4 h5 h6 h7 h8 hrec;have hds':HK (fun j=>if j=ds.length then s else st0 j) (fun j=>if j=ds.length then g0 else h00 j) (fun j=>if j=ds.length then q else r00 j) (ds++[⟨t,q.wr,s.s.hp.length,q.h.length⟩]):=by
    intro j d hj;rw[j2]at hj;split at hj
    . rename_i hlt;have:j≠ds.length:=by omega
      simp only[this,if_false];exact hds j d hj
    . grind
   obtain⟨st,h0,r,e1,e2,e3,e4⟩:=trace rest _ _ s' _ _ _ hds' hrec;simp only[du,f6,f9,gD]at e1 e2 e3 e4;have eN:=e1 ds.length ac;simp only[if_true]at eN;have elt:∀j,j<ds.length->st j=st0 j/\h0 j=h00 j/\r j=r00 j:=by
    intro j hj;have:=e1 j ac;rw[if_neg ac,if_neg ac,if_neg ac]at this;exact this
   refine⟨st,h0,r,elt,eN.1,bc,?_⟩;intro k o' un' hk;cases k with
   | zero=>
    simp at hk;obtain⟨rfl,rfl⟩:=hk;rw[j7];have hown:∀j,j<ds.length->∃d,ds[j]? = some d/\(∀b,b∈d.own↔b∈(r j).wr\/((st j).s.hp.length<=b/\b<(r j).h.length))/\∀T,d.lj=some T->∀(b:Nat) x,(h0 j)[b]? = some (some x)->b∈T:=by
     intro j hj;obtain⟨f1,f2,f3⟩:=elt j hj;obtain⟨g1,g2,g3,g4⟩:=hds j ds[j] (by simp[hj]);refine⟨ds[j],by simp[hj],fun b=>?_,fun T hT b x hb=>bc⟩;rw[Sf,g1,g2,g3,f1,f3]
    refine⟨?_,?_,?_,?_,?_,?_,?_⟩<;>grind
   | succ k=>
    grind
  have keep0:∀(b:Nat) x,(fz [] s.s.hp 0)[b]? ≠ some (some x):=by
   intro b x;rw[oC];cases s.s.hp[b]? <;> simp
  have merge0:gg [] s.s.hp (fz [] s.s.hp 0) 0=s.s.hp:=by
   apply c9;intro b;rw[kJ _ _ _ _ _ (by rw[gR];simp)];split
   . simp
   . grind[gT,gR]
  have go:∀(t:Option (List Nat)) (g0:ab),fl s.s o.guard=some true->(match t with|some T=>jl T (un.flatMap fun j=>(ds[j]?).elim [] cJ.own)|none=>true)=true ->
   g0=(match t with|some T=>fz T s.s.hp 0|none=>mask s.s.hp (un.flatMap fun j=>(ds[j]?).elim [] cJ.own)) ->
   (match cz call inv { s.s with hp:=g0 } o.op with
     | some r=>
      if ((r.wr.all fun b=>(g0.at b).isSome) && (r.wr.isEmpty || un.all (fun j=>match ds[j]? with|some d=>(match d.lj with|some T=>jl r.wr T|none=>false)|none=>false)))=true then
       eK call inv rest ⟨{ s.s.put o.dst r.v with hp:=gg r.wr s.s.hp r.h 0 },r.wr++s.wr⟩ (ds++[⟨t,r.wr,s.s.hp.length,r.h.length⟩])
      else none
     | none=>none)=some s' ->
   ∃st h0 r,(∀j,j<ds.length->st j=st0 j/\h0 j=h00 j/\r j=r00 j)/\st ds.length=s/\st (ds.length+((o,un)::rest).length)=s' /\
    ∀k o' un',((o,un)::rest)[k]? = some (o',un')->vJ call inv st h0 r (ds.length+k) o' un':=by
   intro t g0 hw hdis hg0 hq;split at hq
   . rename_i q hq1;split at hq
     . rename_i hchk;rw[br]at hchk;obtain⟨hc1,hc2⟩:=hchk;refine fin g0 q t true hw (fun _=>hq1) ax ?_ ?_ ?_ ?_ ?_ ?_ hq
       . grind[HJ,gR]
       . grind[Bg,oC,ce.injEq]
       . intro b x hb j hj d hd hbo;have hU:b∈un.flatMap fun j=>(ds[j]?).elim [] cJ.own:=by
          rw[List.mem_flatMap];exact⟨j,hj,bc⟩
         subst hg0;cases t
         . simp only at hb;rw[Bg,if_pos hU]at hb;grind
         grind[oC,ce.injEq,HL]
       . intro b hb;have:=c5.1 hc1 b hb;unfold ab.at at this;cases hz:g0[b]? with
         | none=>grind
         | some z=>cases z<;>grind
       . intro j hj d hd b hb;rw[Bool.or_eq_true]at hc2;grind[HL]
       grind[oC,ce.injEq]
     grind
   . cases hq
  simp only[eK]at hq;split at hq
  . rename_i hw;split at hq
    . cases ht:mr s.s o.op with
      | none=>
       simp only[ht]at hq;exact go none _ hw rfl rfl hq
      | some T=>
       simp only[ht]at hq;split at hq
       . rename_i hdis;exact go (some T) _ hw hdis rfl hq
       grind
    . rename_i hh;split at hq
      . rename_i v hv;have hhf:o.op.bU=false:=by simpa using hh
        refine fin (fz [] s.s.hp 0) ⟨v,fz [] s.s.hp 0,[]⟩ (some []) true hw (fun _=>?_) ax (gR _ _ _) bc bc ax ax bc ?_
        . have:cz call inv { s.s with hp:=fz [] s.s.hp 0 } o.op=(bF { s.s with hp:=fz [] s.s.hp 0 } o.op).map fun v=>⟨v,fz [] s.s.hp 0,[]⟩:=by
           cases ho:o.op <;> rw[ho]at hhf <;> first|(simp[bI.bU]at hhf;done)|rfl
          rw[this];have hv':bF { s.s with hp:=fz [] s.s.hp 0 } o.op=some v:=by
           rw[←hv];have hc:=fun s' h'=>HH (call:=call) (inv:=inv) (s:=s') (s':=s') (io:=o.op) rfl h'
           have e:∀(h:ab),bF { s.s with hp:=h } o.op=bF s.s o.op:=by
            intro h;have e1:∀x,({ s.s with hp:=h }:St).ae x=s.s.ae x:=by intro x;cases x <;> rfl
            have e2:∀xs,({ s.s with hp:=h }:St).db xs=s.s.db xs:=(by grind[oz]);have e3:∀xs,({ s.s with hp:=h }:St).fg xs=s.s.fg xs:=fun xs=>(by rfl)
            have e4:∀xs,({ s.s with hp:=h }:St).parts xs=s.s.parts xs:=(by grind[vI]);cases o.op <;> simp only[bF,e1,e2,e3,e4]
           exact e _
          grind
        . have e:({ s.s.put o.dst v with hp:=s.s.hp }:St)=s.s.put o.dst v:=by cases o.dst <;> rfl
          grind[gR]
      grind
  . rename_i hw;refine fin (fz [] s.s.hp 0) ⟨cM,fz [] s.s.hp 0,[]⟩ (some []) false hw ax (fun _=>rfl) (gR _ _ _) bc bc ax ax bc ?_;have e:({ s.s.put o.dst cM with hp:=s.s.hp }:St)=s.s.put o.dst cM:=by cases o.dst <;> rfl
    grind[gR]
  grind
end Go.Ab
namespace Go.Ab
variable {dst:Option Tmp} {d:fN} {y:aZ}
variable {P:Program} {gl:Nat->Option AV} {ρ:aW} {w:World} {h:ab} {C:Cx} {s:St} {a:Act}
def fm (lo:Nat)(ρ:aW):aW:=⟨fun b=>if b<lo then ρ b else .fresh,fun c=>ρ.X c\/∃b d,lo<=b/\ρ b = .live c d⟩
theorem dy.fm {c:Nat}(lo:Nat)(h:dy ρ c):dy (fm lo ρ) c:=by
 refine⟨fun b d hb=>?_,?_⟩
 . simp only[Ab.fm]at hb;split at hb
   . exact h.1 b d hb
   grind
 . rintro(hx|⟨b,d,_,hb⟩)
   . exact h.2 hx
   . exact h.1 b d hb
theorem BR.ik {ρ ρ':aW}{n:Nat}(hρ:∀b,b<n->ρ' b=ρ b)(hF:∀c,dy ρ c->dy ρ' c){b:Nat}(hb:b<n){o:bV}(h:BR P gl ρ w b o)(ht:o.top<=n):BR P gl ρ' w b o:=by
 cases o with
 | cells l e=>
  rcases h with ⟨c,d,cs,fr,h1,h2,h3,h4,h5⟩|⟨h1,h2⟩
  . exact .inl ⟨c,d,cs,fr,(hρ b hb).trans h1,h2,h3,h4,fun i x y hx hy=>(h5 i x y hx hy).ik hρ hF (fR ht i x hx)⟩
  . exact .inr ⟨(hρ b hb).trans h1,h2⟩
 | map es=>
  obtain⟨c,ms,clk,h1,h2,h3,h4⟩:=h;have key:∀(es:List (AV×AV)),bV.top.oc es<=n->∀(i:Nat) kx vx,es[i]? = some (kx,vx)->kx.top<=n/\vx.top<=n:=by
   intro es;induction es with
   | nil=>simp
   | cons p r ih=>
    intro ht i kx vx hx;obtain⟨k,v⟩:=p;simp only[bV.top.oc]at ht<;>grind
  exact⟨c,ms,clk,(hρ b hb).trans h1,h2,h3,fun i kx vx m hx hm=>by
   obtain⟨g1,g2⟩:=h4 i kx vx m hx hm;obtain⟨t1,t2⟩:=key es ht i kx vx hx;exact⟨g1.ik hρ hF t1,g2.ik hρ hF t2⟩⟩
 | iter s pos=>obtain⟨c,h1,h2⟩:=h;exact⟨c,(hρ b hb).trans h1,h2⟩
 | ie=>obtain⟨c,h1,h2⟩:=h;exact⟨c,(hρ b hb).trans h1,h2⟩
 | hole=>exact(hρ b hb).trans h
 | loop st pend pe ps a bd=>
  obtain⟨c,r,aY,N,h1,h2,h3,h4,h5,h6⟩:=h;exact⟨c,r,aY,N,(hρ b hb).trans h1,h2,h3,h4,⟨h5.size,h5.nodup,h5.lt,h5.lE,fun i v t hv ht'=>(h5.pe i v t hv ht').ik hρ hF (fR ht i v hv),ax⟩,h6⟩
theorem BR.top {n:Nat}(hn:∀b,n<=b->ρ b = .fresh){b:Nat}{o:bV}(h:BR P gl ρ w b o):o.top<=n:=by
 cases o with
 | cells l e=>
  rcases h with ⟨c,d,cs,fr,h1,h2,h3,h4,h5⟩|⟨h1,h2⟩
  . refine mS fun i x hx=>?_
    have hi:=(be.1 hx).1;have hlt:i+d<cs.size:=by have:=h3.1;omega
    exact(h5 i x cs[i+d] hx ax).top hn
  . subst h2;simp[bV.top,bO]
 | map es=>
  obtain⟨c,ms,clk,h1,h2,h3,h4⟩:=h;have key:∀(es:List (AV×AV)),(∀(i:Nat) kx vx,es[i]? = some (kx,vx)->kx.top<=n/\vx.top<=n)->bV.top.oc es<=n:=by
   intro es;induction es with
   | nil=>intro _;simp[bV.top.oc]
   | cons p r ih=>
    intro hx;obtain⟨k,v⟩:=p;simp only[bV.top.oc];have:=hx 0 k v rfl;have:=ih fun i kx vx h=>hx (i+1) kx vx bc
    omega
  refine key es fun i kx vx hx=>?_
  have hi:=(be.1 hx).1;obtain⟨g1,g2⟩:=h4 i kx vx ms[i] hx ax;exact⟨g1.top hn,g2.top hn⟩
 | iter s pos=>simp[bV.top]
 | ie=>simp[bV.top]
 | hole=>simp[bV.top]
 | loop st pend pe ps a bd=>
  obtain⟨c,r,aY,N,h1,h2,h3,h4,h5,h6⟩:=h;refine mS fun i x hx=>?_
  have hi:=(be.1 hx).1;have hp:=h5.lE;exact(h5.pe i x aY[i] hx ax).top hn
def VS (C:Cx)(ρ:aW)(w:World)(tmps:Array Value)(y:aZ)(v:AV):Prop:=
 match y with
 | .p i=>∀t,C.aY[i]? = some t->V ρ w v (tmps.getD t undef)
 | .l t=>t<C.N/\t∉C.aY/\V ρ w v (tmps.getD t undef)
 | .c _=>True
theorem VS.mono {h h':ab}{ρ ρ':aW}{w w':World}(x:Ext h h' ρ ρ' w w'){tmps:Array Value}{y:aZ}{v:AV}(hv:VS C ρ w tmps y v):VS C ρ' w' tmps y v:=by
 cases y with
 | p i=>exact fun t ht=>(hv t ht).mono x
 | l t=>exact⟨hv.1,hv.2.1,hv.2.2.mono x⟩
 | c _=>trivial
theorem vK {v:Value}:(a.put dst v).tmps=match dst with|some t=>a.tmps.setIfInBounds t v|none=>a.tmps:=by
 cases dst <;> rfl
theorem VS.Sg (hd:lC C dst=some d)(hsz:a.tmps.size=C.N){y:aZ}(hy:fh d y=true){x:AV}{v:Value}(hv:V ρ w x v):VS C ρ w (a.put dst v).tmps y x:=by
 cases dst with
 | none=>cases hd;cases y <;> simp[fh]at hy
 | some t=>
  simp only[lC]at hd;split at hd
  . rename_i hlt;split at hd
    . rename_i i hi;cases hd;have hti:=vw hi;cases y <;> simp[fh]at hy;subst hy;intro u hu;rw[hti]at hu;cases hu;rw[vK];simp_all
    . rename_i hi;cases hd;have hnt:=vy hi;cases y <;> simp[fh]at hy;subst hy;refine⟨hlt,hnt,?_⟩;rw[vK];simp_all
  grind
theorem VS.Sh (hd:lC C dst=some d)(hnd:C.aY.Nodup){y:aZ}(hy:fh d y=false){x:AV}{v:Value}(hv:VS C ρ w a.tmps y x):VS C ρ w (a.put dst v).tmps y x:=by
 cases dst with
 | none=>exact hv
 | some t=>
  rw[vK];simp only[lC]at hd;split at hd
  . rename_i hlt;split at hd
    . rename_i i hi;cases hd;have hti:=vw hi;cases y with
      | p j=>
       simp[fh]at hy;intro u hu;have hne:u≠t:=fun e=>by
        grind[j6]
       simp only[oy];rw[if_neg ac];exact hv u hu
      | l u=>
       obtain⟨g1,g2,g3⟩:=hv;have hne:u≠t:=bc;refine⟨g1,g2,?_⟩;simp only[oy]<;>grind
      | c _=>trivial
    . rename_i hi;cases hd;have hnt:=vy hi;cases y with
      | p j=>
       intro u hu;have hne:u≠t:=bc;simp only[oy];rw[if_neg ac];exact hv u hu
      | l u=>
       simp[fh]at hy;obtain⟨g1,g2,g3⟩:=hv;refine⟨g1,g2,?_⟩<;>simp_all
      | c _=>trivial
  grind
theorem Si (hy:fh d y=true){x v:AV}(h:(s.put d x).ae y=some v):v=x:=by
 cases d <;> cases y <;> simp[fh]at hy
 . subst hy;simp only[St.put,St.ae,c7]at h<;>grind
 . subst hy;simp only[St.put,St.ae,List.lookup_cons_self]at h<;>grind
theorem Sj (hy:fh d y=false){x:AV}:(s.put d x).ae y=s.ae y:=by
 cases d <;> cases y <;> first|rfl|skip
 . rename_i i j;simp[fh]at hy;simp only[St.put,St.ae,c7]<;>grind
 . rename_i t u;simp[fh]at hy;simp only[St.put,St.ae,kT]<;>grind
def restrict (us:List aZ)(s:St)(h:ab):St:=
 { s with pe:=s.pe.mapIdx (fun i v=>if us.any (fh (.p i)) then v else .dO),lo:=s.lo.filter (fun e=>us.any (fh (.l e.1))),hp:=h }
theorem Bh {p:Nat->Bool}{t:Nat}:∀(l:List (Nat×AV)),(l.filter (fun e=>p e.1)).lookup t=if p t then l.lookup t else none
 | []=>by simp
 | (u,v)::r=>by
  have ih:=Bh (p:=p) (t:=t) r<;>grind
theorem HM {us:List aZ}(hy:y∈us)(h:ab):(restrict us s h).ae y=s.ae y:=by
 cases y with
 | p i=>
  have:us.any (fh (.p i))=true:=ii.2 ⟨_,hy,by simp[fh]⟩;simp only[restrict,St.ae,iH,this,if_true]<;>grind
 | l t=>
  have:us.any (fh (.l t))=true:=ii.2 ⟨_,hy,by simp[fh]⟩;simp only[restrict,St.ae];rw[Bh (p:=fun t=>us.any (fh (.l t))),if_pos this]
 | c v=>rfl
theorem Sk {us:List aZ}{tmps:Array Value}(hsz:tmps.size=C.N)(hnd:C.aY.Nodup)(hlt:∀t∈C.aY,t<C.N)(hpl:s.pe.length=C.aY.length)
 (hv:∀y∈us,∀v,s.ae y=some v->VS C ρ w tmps y v) (h:ab):ER C ρ w (restrict us s h).pe (restrict us s h).lo tmps:=by
 refine⟨hsz,hnd,hlt,by simp[restrict,hpl],?_,?_⟩
 . intro i v t h1 h2;simp only[restrict,iH,bZ]at h1;obtain⟨u,h3,h4⟩:=h1;split at h4
   . rename_i hu;subst h4;obtain⟨y,hy,hs⟩:=ii.1 hu;cases y <;> simp[fh]at hs;subst hs;exact hv _ hy u h3 t h2
   . subst h4;exact .dO _
 . intro t v h1;simp only[restrict]at h1;rw[Bh (p:=fun t=>us.any (fh (.l t)))]at h1;split at h1
   . rename_i hu;obtain⟨y,hy,hs⟩:=ii.1 hu;cases y <;> simp[fh]at hs;subst hs;exact hv _ hy v h1
   grind
end Go.Ab
namespace Go.Ab
variable {k:Nat}
structure oE (call:fc)(inv:fy)(il:List bz)(un:Nat->List Nat)(st:Nat->au)(h0:Nat->ab)(r:Nat->HR):Prop where
 step:∀k o,il[k]? = some o->vJ call inv st h0 r k o (un k)
 wr:∀g as h r,call g as h=some r->gk h r
def own (st:Nat->au)(r:Nat->HR)(k b:Nat):Prop:=b∈(r k).wr\/((st k).s.hp.length<=b/\b<(r k).h.length)
variable {call:fc} {inv:fy} {il:List bz} {un:Nat->List Nat} {st:Nat->au} {h0:Nat->ab} {r:Nat->HR}
namespace oE
variable (T:oE call inv il un st h0 r)
include T
theorem HN (hk:k<il.length):gk (h0 k) (r k):=by
 have sk:=T.step k il[k] (by simp[hk]);obtain⟨b,_,h1,h2⟩:=sk.wanted;cases b with
 | true=>exact Bf T.wr (h1 rfl)
 | false=>rw[h2 rfl];exact qC _
theorem vM (hk:k<il.length):(st k).s.hp.length<=(r k).h.length:=by
 have:=(T.HN hk).1;rw[(T.step k il[k] (by simp[hk])).len]at this;exact this
theorem vN (hk:k<il.length):(st (k+1)).s.hp.length=(r k).h.length:=by
 rw[(T.step k il[k] (by simp[hk])).next];exact sI _ _ _ _ (T.vM hk)
theorem jn {i:Nat}:∀{j:Nat},i<=j->j<=il.length->(st i).s.hp.length<=(st j).s.hp.length
 | 0,h,_=>by grind
 | j+1,h,hj=>by
  by_cases e:i=j+1
  . grind
  . have h1:(st i).s.hp.length<=(st j).s.hp.length:=jn ac ac;have h2:=T.vM (k:=j) ac;have h3:=T.vN (k:=j) ac;omega
theorem Bi (hk:k<il.length)(b:Nat):(st (k+1)).s.hp[b]? = if b<(st k).s.hp.length then (if (r k).wr.contains b then (r k).h[b]? else (st k).s.hp[b]?) else (r k).h[b]? := by
 rw[(T.step k il[k] (by simp[hk])).next];have:=kJ (r k).wr (st k).s.hp (r k).h 0 b (T.vM hk)<;>grind
theorem Sm (hk:k<il.length){b:Nat}(ho:own st r k b):(st (k+1)).s.hp[b]? = (r k).h[b]? := by
 rw[T.Bi hk];split
 . rename_i hlt;rcases ho with ho|ho<;>grind
 . rfl
theorem Sn (hk:k<il.length){b:Nat}(ho:¬own st r k b):(st (k+1)).s.hp[b]? = (st k).s.hp[b]? := by
 rw[T.Bi hk];have h1:b∉(r k).wr:=fun h=>ho (.inl h)
 split
 . simp[h1]
 . rename_i hge;have h2:(r k).h.length<=b:=by
    rcases bA b (r k).h.length with h|h
    . exact absurd (.inr ⟨ac,h⟩) ho
    . exact h
   grind
theorem stays {i b:Nat}:∀{m:Nat},i<=m->m<=il.length->(∀j,i<=j->j<m->¬own st r j b)->(st m).s.hp[b]? = (st i).s.hp[b]?
 | 0,h,_,_=>by grind
 | m+1,h,hm,ho=>by
  by_cases e:i=m+1
  . grind
  . rw[T.Sn ac (ho m ac ac)];exact stays ac ac fun j h1 h2=>ho j h1 ac
theorem HO (hk:k<il.length)(y:aZ):(st (k+1)).s.ae y=((st k).s.put il[k].dst (r k).v).ae y:=by
 rw[(T.step k il[k] (by simp[hk])).next];rfl
theorem Bj {i:Nat}{y:aZ}:∀{m:Nat},i<=m->m<=il.length->(∀(j:Nat) (o:bz),i<=j->j<m->il[j]? = some o->fh o.dst y=false)->(st m).s.ae y=(st i).s.ae y
 | 0,h,_,_=>by grind
 | m+1,h,hm,ho=>by
  by_cases e:i=m+1
  . grind
  . rw[T.HO ac,Sj (ho m _ ac ac ax)];exact Bj ac ac fun j o h1 h2 h3=>ho j o h1 ac h3
theorem dO {b:Nat}(h:(st 0).s.hp[b]? = some none):∀{k:Nat},k<=il.length->(st k).s.hp[b]? = some none
 | 0,_=>h
 | k+1,hk=>by
  have ih:=dO h (k:=k) ac;have hlt:=(be.1 ih).1;rw[T.Bi ac,if_pos hlt];have:b∉(r k).wr:=by
   intro hb;have sk:=T.step k il[k] ax;obtain⟨x,hx⟩:=sk.sM b hb;rw[sk.known b x hx]at ih;cases ih
  grind
theorem HP (hk:k<=il.length):(st k).s.pe.length=(st 0).s.pe.length:=by
 induction k with
 | zero=>rfl
 | succ k ih=>
  rw[←ih ac,(T.step k il[k] ax).next];cases il[k].dst <;> simp[St.put]
theorem cI (hk:k<=il.length):(st k).s.cI=(st 0).s.cI:=by
 induction k with
 | zero=>rfl
 | succ k ih=>
  rw[←ih ac,(T.step k il[k] ax).next];cases il[k].dst <;> simp[St.put]
end oE
end Go.Ab
namespace Go.Ab
variable {call:fc} {inv:fy} {il:List bz} {un:Nat->List Nat} {st:Nat->au} {h0:Nat->ab} {r:Nat->HR} {C:Cx} {bits:List Nat} {ρ0:aW} {w0:World} {df:List Deferred}
structure Inv (C:Cx)(il:List bz)(st:Nat->au)(r:Nat->HR)(bits:List Nat)(ρ0:aW)(w0:World)(df:List Deferred)(S:Nat->Prop)(ρ:aW)(H:ab)(a:Act)(w:World):Prop where
 hlen:H.length=(st il.length).s.hp.length
 mem:Mem C.P C.gl ρ H w
 ext:Ext (st 0).s.hp H ρ0 ρ w0 w
 vO:∀k,k<il.length->¬S k->∀b,(st k).s.hp.length<=b->b<(r k).h.length->H[b]? = some (some .hole)
 heap:∀b k,k<=il.length->(∀i,i<k->own st r i b->S i)->(∀j,k<=j->j<il.length->S j->¬own st r j b)->∀o,(st k).s.hp[b]? = some (some o)->H[b]? = some (some o)/\o.top<=(st k).s.hp.length
 slot:∀y k,k<=il.length->(∀(i:Nat) o,i<k->il[i]? = some o->fh o.dst y=true->S i)->(∀(j:Nat) o,k<=j->il[j]? = some o->S j->fh o.dst y=false) ->
  ∀v,(st k).s.ae y=some v->VS C ρ w a.tmps y v/\((∃c,y = .c c)\/v.top<=(st k).s.hp.length)
 size:a.tmps.size=C.N
 ie:a.defers=df
 Bk:∀i,S i->i<il.length->∀j,j<i->(bits.getD i 0).testBit j=true->S j
theorem Inv.after (T:oE call inv il un st h0 r){S:Nat->Prop}{ρ:aW}{H:ab}{a:Act}{w:World}(I:Inv C il st r bits ρ0 w0 df S ρ H a w)(hnd:C.aY.Nodup){k:Nat}{io:bz}(hio:il[k]? = some io)(hS:¬S k)
 (hap:∀(i:Nat) oi,il[i]? = some oi->∀j∈un i,∃oj,il[j]? = some oj/\qi oj oi=true)
 (hb1:∀j,j<k->¬S j->j∈un k) (hb2:∀j,k<j->j<il.length->S j->k∈un j) (hb3:∀j,j<k->(bits.getD k 0).testBit j=true->S j)
 (hkey:∀(b:Nat) x,(h0 k)[b]? = some (some x)->H[b]? = some (some x)) {dst:Option Tmp} (hd:lC C dst=some io.dst) {v':Value} {w':World} {ρ':aW}
 (hv:V ρ' w' (r k).v v') (m':Mem C.P C.gl ρ' (r k).h w') (x:Ext (h0 k) (r k).h (fm (st k).s.hp.length ρ) ρ' w w') :
 ∃ρn H',Inv C il st r bits ρ0 w0 df (fun i=>S i\/i=k) ρn H' (a.put dst v') w':=by
 have hk:k<il.length:=(be.1 hio).1;have hioe:il[k]=io:=(be.1 hio).2;have sk:=T.step k io hio;have hlo:(h0 k).length=(st k).s.hp.length:=sk.len;have hle:=T.vM hk;have hnx:=T.vN hk;have hwr:=T.HN hk;have hmn:=T.jn (i:=k+1) (j:=il.length) ac (c6 _);generalize hloe:(st k).s.hp.length=lo at *
 generalize hhie:(r k).h.length=hi at *
 let ownb:Nat->Bool:=fun b=>(r k).wr.contains b || (decide (lo<=b) && decide (b<hi))
 have ownb_iff:∀b,ownb b=true↔own st r k b:=by
  intro b;simp only[ownb,own,hloe,hhie];simp
 let ρn:aW:=⟨fun b=>if b<hi then ρ' b else ρ b,ρ.X⟩
 let H':ab:=H.mapIdx fun b o=>if ownb b then ((r k).h[b]?).join else o
 have hH':∀b,H'[b]? = (H[b]?).map fun o=>if ownb b then ((r k).h[b]?).join else o:=by
  intro b;simp only[H',iH]
 have hH'len:H'.length=H.length:=by simp[H']
 have cut_eq:∀b,b<lo->(fm lo ρ) b=ρ b:=fun b hb=>by simp only[fm];grind
 have cut_ge:∀b,lo<=b->(fm lo ρ) b = .fresh:=fun b hb=>by simp only[fm];grind
 have fresh_new:∀b,lo<=b->b<hi->ρ b = .fresh:=fun b h1 h2=>I.mem.dP b .hole (I.vO k hk hS b ac ac)
 have h0none:∀b,b<lo->H[b]? = some none->(h0 k)[b]? = some none:=by
  intro b hb hn;cases hz:(h0 k)[b]? with
  | none=>grind
  | some z=>cases z with
    | none=>rfl
    | some z=>grind
 have ρn_lt:∀b,b<hi->ρn b=ρ' b:=bc;have ρn_ge:∀b,hi<=b->ρn b=ρ b:=bc;have E:Ext H H' ρ ρn w w':=by
  refine⟨x.os,x.tape,x.output,x.size,ac,rfl,?_,?_,?_,?_,?_,?_,?_,x.shape⟩
  . intro b hb;have:ownb b=false:=by
     rw[d6];intro ho;rcases (ownb_iff b).1 ho with h|⟨h1,h2⟩
     . obtain⟨z,hz⟩:=sk.sM b h;grind
     . rw[I.vO k hk hS b h1 h2]at hb;cases hb
    rw[hH' b,hb];simp[this]
  . intro b hb;rcases bA b hi with h|h
    . rw[ρn_lt b h];have hblo:b<lo:=by
       rcases bA b lo with h'|h'
       . exact h'
       . rw[I.vO k hk hS b ac ac]at hb;cases hb
      rw[x.same b bc,cut_eq b hblo]
    grind
  . intro b c d hb;rcases bA b hi with h|h
    . rw[ρn_lt b h];rcases bA b lo with h'|h'
      . exact x.live b c d bc
      grind
    grind
  . intro b hb;rcases bA b hi with h|h
    . rw[ρn_lt b h];rcases bA b lo with h'|h'
      . exact x.dead b bc
      grind
    grind
  . intro b hb;rcases bA b hi with h|h
    . rw[ρn_lt b h];rcases bA b lo with h'|h'
      . exact x.nil b bc
      grind
    grind
  . intro c hc hu;refine x.di c hc fun b d hb=>?_
    grind
  . intro b c d hb hc;rcases bA b hi with h|h
    . rw[ρn_lt b h]at hb;rcases x.back b c d hb hc with h1|⟨b0,d0,h1,h2⟩
      . grind
      grind
    grind
 have hFree:∀c,dy ρ' c->dy ρn c:=by
  intro c hc;have hX:ρ'.X=(fm lo ρ).X:=x.X;have h2:=hc.2;rw[hX]at h2;refine⟨fun b d hb=>?_,fun hx=>h2 (.inl hx)⟩;rcases bA b hi with h|h
  . rw[ρn_lt b h]at hb;exact hc.1 b d hb
  . rw[ρn_ge b h]at hb;exact h2 (.inr ⟨b,d,ac,hb⟩)
 have top':∀{y:AV} {u:Value},V ρ' w' y u->y.top<=hi:=fun hy=>hy.top fun b hb=>m'.fresh b ac
 have hM:Mem C.P C.gl ρn H' w':=by
  refine⟨?_,?_,?_,?_,?_,?_,fun g v hg=>(I.mem.gl g v hg).mono E⟩
  . intro b o hb;rw[hH' b]at hb;cases hz:H[b]? with
    | none=>grind
    | some z=>
     rw[hz]at hb;simp only[cD,ce.injEq]at hb;have useR:(r k).h[b]? = some (some o)->BR C.P C.gl ρn w' b o:=by
      intro hr;have hb':b<hi:=by have:=(be.1 hr).1;omega
      have hbr:=m'.dP b o hr;exact hbr.ik (n:=hi) ac hFree hb' (hbr.top fun b hb=>m'.fresh b ac)
     split at hb
     . grind
     . rename_i hno;subst hb;have hno':¬own st r k b:=bc;have hbr:=I.mem.dP b o hz;rcases bA b lo with h'|h'
       . cases hz0:(h0 k)[b]? with
         | none=>grind
         | some z0=>
          cases z0 with
          | some o'=>
           have:=hkey b o' hz0;rw[hz]at this;cases this;refine useR ?_;rw[hwr.2 b ac bc,hz0]
          | none=>
           refine hbr.mono E ?_ ?_
           . rw[ρn_lt b ac,x.same b hz0,cut_eq b h']
           . intro c d hl;refine x.di c (I.mem.bound b c d hl) fun b' d' hb'=>?_
             rcases bA b' lo with h''|h''
             . rw[cut_eq b' h'']at hb';have:=I.mem.inj _ _ _ _ _ hl hb';grind
             grind
       . have hge:hi<=b:=by
          rcases bA b hi with h|h
          . grind
          . exact h
         refine hbr.mono E (ρn_ge b hge) ?_;intro c d hl;refine x.di c (I.mem.bound b c d hl) fun b' d' hb'=>?_
         rcases bA b' lo with h''|h''
         . rw[cut_eq b' h'']at hb';have:=I.mem.inj _ _ _ _ _ hl hb';omega
         grind
  . intro b hb;rw[hH'len,I.hlen]at hb;rw[ρn_ge b ac];exact I.mem.fresh b (by rw[I.hlen];exact hb)
  . have key:∀b b' c d d',b<hi->hi<=b'->ρ' b = .live c d->ρ b' = .live c d'->False:=by
     intro b b' c d d' h1 h2 h3 h4;have:=m'.xo b c d h3;rw[x.X]at this;exact this (.inr ⟨b',d',ac,h4⟩)
    intro b b' c d d' h1 h2;rcases bA b hi with h|h <;> rcases bA b' hi with h'|h'
    . rw[ρn_lt b h]at h1;rw[ρn_lt b' h']at h2;exact m'.inj _ _ _ _ _ h1 h2
    . grind
    . grind
    . rw[ρn_ge b h]at h1;rw[ρn_ge b' h']at h2;exact I.mem.inj _ _ _ _ _ h1 h2
  . intro b c d hb;rcases bA b hi with h|h
    . rw[ρn_lt b h]at hb;exact m'.bound _ _ _ hb
    . rw[ρn_ge b h]at hb;exact gc (I.mem.bound _ _ _ hb) x.size
  . intro c hc;exact gc (I.mem.xb c hc) x.size
  . intro b c d hb hX;rcases bA b hi with h|h
    . rw[ρn_lt b h]at hb;have:=m'.xo b c d hb;rw[x.X]at this;exact this (.inl hX)
    . rw[ρn_ge b h]at hb;exact I.mem.xo _ _ _ hb hX
 have hvn:V ρn w' (r k).v v':=hv.ik (n:=hi) ac hFree (top' hv);refine⟨ρn,H',⟨by rw[hH'len];exact I.hlen,hM,I.ext.trans E,?_,?_,?_,?_,?_,?_⟩⟩
 . -- holes
   intro k' hk' hS' b h1 h2;have hne:k'≠k:=ac;have hh:=I.vO k' hk' bc b h1 h2;have:ownb b=false:=by
    rw[d6];intro ho;rcases (ownb_iff b).1 ho with h|⟨h3,h4⟩
    . obtain⟨z,hz⟩:=sk.sM b h;rw[hkey b z hz]at hh;cases hh;have hst:=sk.known b _ hz;rcases j8 k' k with hlt|heq|hgt
      . -- made by k' in the text's order, so k' has been carried out
        have hun:k'∈un k:=bc;exact(sk.off b _ hz k' hun hlt).2 ⟨h1,h2⟩
      . omega
      . have hlen':=(be.1 hz).1;have:=T.jn (i:=k) (j:=k') ac ac;omega
    . rcases j8 k' k with hlt|heq|hgt
      . have h5:=T.vN hk';have h6:=T.jn (i:=k'+1) (j:=k) ac ac;omega
      . omega
      . have h6:=T.jn (i:=k+1) (j:=k') ac ac;omega
   rw[hH' b,hh];simp[this]
 . -- heap
   intro b m hm h1 h2 o ho;by_cases cw:own st r k b
   . have hkm:k<m:=by
      rcases bA k m with h|h
      . exact h
      . grind
     have hst:=T.stays (i:=k+1) (b:=b) (m:=m) ac hm (fun j hj1 hj2 hoj=>by
      have hSj:S j:=bc;have hun:=hb2 j ac ac hSj;have sj:=T.step j il[j] ax;rcases hoj with hoj|hoj
      . obtain⟨z,hz⟩:=sj.sM b hoj;have:=sj.off b z hz k hun ac;grind
      . have hlj:=T.jn (i:=k+1) (j:=j) ac ac;rcases cw with cw|cw
        . obtain⟨z,hz⟩:=sk.sM b cw;grind
        . omega)
     rw[hst,T.Sm hk cw]at ho;have hbl:b<H.length:=by
      have:=(be.1 ho).1;have:=I.hlen;omega
     refine⟨?_,?_⟩
     . grind
     . have:=(m'.dP b o ho).top (n:=hi) (fun b hb=>m'.fresh b ac);have:=T.jn (i:=k+1) (j:=m) ac hm;omega
   . have hno:ownb b=false:=by rw[d6];exact bc
     obtain⟨g1,g2⟩:=I.heap b m hm bc bc o ho;grind
 . -- slots
   intro y m hm h1 h2 v hv0;by_cases hy:fh io.dst y=true
   . have hkm:k<m:=by
      rcases bA k m with h|h
      . exact h
      . grind
     have hst:=T.Bj (i:=k+1) (y:=y) (m:=m) ac hm (fun j oj hj1 hj2 hoj=>by
      rw[d6];intro hyj;have hSj:S j:=bc;have hun:=hb2 j ac ac hSj;obtain⟨ok,cw,hapt⟩:=hap j oj hoj k hun;rw[hio]at cw;cases cw;simp only[qi,br,Bool.not_eq_true']at hapt;have:=hapt.2;cases hd1:io.dst <;> cases hd2:oj.dst <;> cases y <;> simp[hd1,hd2,fh,GY]at hy hyj this
      . omega
      omega)
     rw[hst,T.HO hk,hioe]at hv0;have:=Si hy hv0;subst this;refine⟨VS.Sg hd I.size hy hvn,.inr ?_⟩;have:=T.jn (i:=k+1) (j:=m) ac hm;grind
   . have hy':fh io.dst y=false:=by simpa using hy
     obtain⟨g1,g2⟩:=I.slot y m hm bc bc v hv0;exact⟨(g1.mono E).Sh hd hnd hy',g2⟩
 . rw[vK];cases dst <;> simp[I.size]
 . rw[←I.ie];unfold Act.put;grind
 . intro i hSi hi' j hj hbit;rcases hSi with hSi|rfl
   . exact .inl (I.Bk i hSi hi' j hj hbit)
   grind
end Go.Ab
namespace Go.Ab
variable {call:fc} {il:List bz} {st:Nat->au} {h0:Nat->ab} {r:Nat->HR} {C:Cx} {bits:List Nat} {ρ0:aW} {w0:World} {df:List Deferred} {ops:Array Oper}
theorem So {α:Type}{l:List α}{i:Nat}{x:α}(h:l[i]? = some x):(x,i)∈l.zipIdx:=by
 grind
theorem HQ (h:qm ops.toList bits=true){i:Nat}{o:Oper}(ho:ops[i]? = some o) :
 (∀e∈o.after,Region.binds .any e=true->e.on<i)/\∀j,j<i->(bits.getD i 0).testBit j=true->∃e∈o.after,Region.binds .any e=true/\(e.on=j\/(j<e.on/\(bits.getD e.on 0).testBit j=true)):=by
 have:=c5.1 h (o,i) bc;grind
theorem HS {b i j:Nat}:j∈jZ b i↔j<i/\b.testBit j=false:=by
 simp[jZ]
theorem Sp (h:qo il bits=true)(i:Nat)(oi:bz)(ho:il[i]? = some oi):∀j∈jZ (bits.getD i 0) i,∃oj,il[j]? = some oj/\qi oj oi=true:=by
 intro j hj;have:=c5.1 h (oi,i) (So ho)<;>grind
theorem Inv.step (hcall:nd C.P C.gl call)(T:oE call (fP C.P) il (fun k=>jZ (bits.getD k 0) k) st h0 r)(hil:kE C ops.toList ops.toList=some il)(hbits:qm ops.toList bits=true)(hdraw:qo il bits=true)
 (hnd:C.aY.Nodup) (hlt:∀t∈C.aY,t<C.N) (hpl:(st 0).s.pe.length=C.aY.length) (hgl:∀g v,C.gl g=some v->v.top<=(st 0).s.hp.length) {S:Nat->Prop} {ρ:aW} {H:ab} {a:Act} {w:World}
 (I:Inv C il st r bits ρ0 w0 df S ρ H a w) {k:Nat} {o:Oper} (ho:ops[k]? = some o) (hS:¬S k) (hready:∀e∈o.after,Region.binds .any e=true->S e.on) {ro:Option Nat} {K:Act->World->Prop} {Q:Exit->Act->World->Prop}
 (hK:∀ρn H' a' w',Inv C il st r bits ρ0 w0 df (fun i=>S i\/i=k) ρn H' a' w'->K a' w'):wpOpIn (FR ro) 0 C.P ops Q k K a w:=by
 obtain⟨hlen,hget⟩:=sJ hil;obtain⟨io,hio,hoi⟩:=hget k o bc;obtain⟨hd,hop,hg⟩:=HI hoi;have hk:k<il.length:=(be.1 hio).1;have sk:=T.step k io hio;obtain⟨hbb,hbt⟩:=HQ hbits ho;have hb3:∀j,j<k->(bits.getD k 0).testBit j=true->S j:=by
  intro j hj hbit;obtain⟨e,he,hb,hor⟩:=hbt j hj hbit;have hSe:=hready e he hb;have hek:=hbb e he hb;rcases hor with rfl|hor
  . exact hSe
  . exact I.Bk e.on hSe ac j hor.1 hor.2
 have hb1:∀j,j<k->¬S j->j∈jZ (bits.getD k 0) k:=by
  intro j hj hSj;rw[HS];refine⟨hj,?_⟩;rw[d6];exact bc
 have hb2:∀j,k<j->j<il.length->S j->k∈jZ (bits.getD j 0) j:=by
  intro j hj hjl hSj;rw[HS];refine⟨hj,?_⟩;rw[d6];exact fun hbit=>hS (I.Bk j hSj hjl k hj hbit)
 have hap:=Sp hdraw;have hkey:∀(b:Nat) x,(h0 k)[b]? = some (some x)->H[b]? = some (some x)/\x.top<=(st k).s.hp.length:=by
  intro b x hb;refine I.heap b k ac ?_ ?_ x (sk.known b x hb)
  . intro i hi hoi;rcases j9 (S i) with h|h
    . exact h
    . have:=sk.off b x hb i (hb1 i hi h) hi;rcases hoi with hoi|hoi<;>grind
  . intro j hj hjl hSj hoj;have hne:j≠k:=bc;have hun:=hb2 j ac hjl hSj;rcases hoj with hoj|hoj
    . exact(T.step j il[j] ax).Se k hun ac b hoj x hb
    . have h1:=(be.1 hb).1;rw[sk.len]at h1;have:=T.jn (i:=k) (j:=j) ac ac<;>grind
 have hslot:∀y∈io.iD,∀v,(st k).s.ae y=some v->VS C ρ w a.tmps y v/\((∃c,y = .c c)\/v.top<=(st k).s.hp.length):=by
  intro y hy v hv;refine I.slot y k ac ?_ ?_ v hv
  . intro i oi hi hoi hs;rcases j9 (S i) with h|h
    . exact h
    . obtain⟨oj,hoj,hapt⟩:=hap k io hio i (hb1 i hi h);rw[hoi]at hoj;cases hoj;simp only[qi,br]at hapt<;>grind
  . intro j oj hj hoj hSj;have hne:j≠k:=bc;have hjl:=(be.1 hoj).1;obtain⟨ok,cw,hapt⟩:=hap j oj hoj k bc;rw[hio]at cw;cases cw;simp only[qi,br]at hapt<;>grind
 have jC:∀{x:AV} {v:Value},V ρ w x v->x.top<=(st k).s.hp.length->V (fm (st k).s.hp.length ρ) w x v:=fun hv ht=>
  hv.ik (fun b hb=>by simp only[fm];grind) (fun c hc=>hc.fm _) ht
 have hmem:Mem C.P C.gl (fm (st k).s.hp.length ρ) (h0 k) w:=by
  refine⟨?_,?_,?_,?_,?_,?_,?_⟩
  . intro b x hb;have h1:=(be.1 hb).1;rw[sk.len]at h1;obtain⟨g1,g2⟩:=hkey b x hb;exact(I.mem.dP b x g1).ik (fun b hb=>by simp only[fm];grind) (fun c hc=>hc.fm _) h1 g2
  . intro b hb;rw[sk.len]at hb;simp only[fm];grind
  . intro b b' c d d' h1 h2;simp only[fm]at h1 h2;split at h1
    . split at h2
      . exact I.mem.inj _ _ _ _ _ h1 h2
      grind
    grind
  . intro b c d h1;simp only[fm]at h1;split at h1
    . exact I.mem.bound _ _ _ h1
    grind
  . rintro c (hc|⟨b,d,_,hb⟩)
    . exact I.mem.xb c hc
    . exact I.mem.bound _ _ _ hb
  . intro b c d h1 hX;simp only[fm]at h1;split at h1
    . rename_i hlt';rcases hX with hX|⟨b',d',hge,hb'⟩
      . exact I.mem.xo _ _ _ h1 hX
      . have:=I.mem.inj _ _ _ _ _ h1 hb'<;>grind
    grind
  . intro g v hg';refine jC (I.mem.gl g v hg') ?_;have:=hgl g v hg';have:=T.jn (i:=0) (j:=k) ac ac;omega
 have hrel:Rel C (fm (st k).s.hp.length ρ) (restrict io.iD (st k).s (h0 k)) a w:=by
  refine⟨Sk I.size hnd hlt (by rw[T.HP ac];exact hpl) ?_ _,hmem⟩;intro y hy v hv;obtain⟨g1,g2⟩:=hslot y hy v hv;cases y with
  | p i=>exact fun t ht=>jC (g1 t ht) bc
  | l t=>exact⟨g1.1,g1.2.1,jC g1.2.2 bc⟩
  | c _=>trivial
 have hfin:∀(v':Value) (w':World) (ρ':aW),V ρ' w' (r k).v v'->Mem C.P C.gl ρ' (r k).h w'->Ext (h0 k) (r k).h (fm (st k).s.hp.length ρ) ρ' w w'->K (a.put o.dst v') w':=by
  intro v' w' ρ' hv m' x;obtain⟨ρn,H',I'⟩:=Inv.after T I hnd hio hS hap hb1 hb2 hb3 bc hd hv m' x;exact bc
 obtain⟨b,hw,hb1',hb0'⟩:=sk.wanted;have hwr:fl (restrict io.iD (st k).s (h0 k)) io.guard=some b:=by
  rw[←hw];unfold fl;cases hgd:io.guard with
  | none=>rfl
  | some g=>
   obtain⟨y,want⟩:=g;simp only;rw[HM (s:=(st k).s) (y:=y) (us:=io.iD) (by simp[bz.iD,hgd])]
 have hwant:=Bd hrel hg hwr;unfold wpOpIn;rw[ho];simp only[hwant];cases b with
 | true=>
  simp only[if_true];have hq:cz call (fP C.P) (restrict io.iD (st k).s (h0 k)) io.op=some (r k):=by
   rw[←hb1' rfl];refine HH rfl fun y hy=>?_
   rw[HM (by simp[bz.iD,hy])];cases y <;> rfl
  refine HE hcall hrel hop hq ?_;rintro v' w' ⟨ρ',hv,m',x⟩;exact hfin v' w' ρ' hv m' x
 | false=>
  simp only[b9,if_false];refine⟨fun _ _=>trivial,?_⟩;have e:=hb0' rfl;refine hfin undef w (fm (st k).s.hp.length ρ) ?_ ?_ ?_
  . grind[V.undef]
  . grind
  grind[Ext.refl]
end Go.Ab
namespace Go.Ab
variable {call:fc} {il:List bz} {st:Nat->au} {h0:Nat->ab} {r:Nat->HR} {C:Cx} {bits:List Nat} {ρ0:aW} {w0:World} {df:List Deferred} {ops:Array Oper}
theorem all_true (l:List Bool)(h:l.count false=0)(i:Nat)(hi:i<l.length):l[i]? = some true:=by
 grind
theorem Sq (hcall:nd C.P C.gl call)(T:oE call (fP C.P) il (fun k=>jZ (bits.getD k 0) k) st h0 r)(hil:kE C ops.toList ops.toList=some il)(hbits:qm ops.toList bits=true)(hdraw:qo il bits=true)
 (hnd:C.aY.Nodup) (hlt:∀t∈C.aY,t<C.N) (hpl:(st 0).s.pe.length=C.aY.length) (hgl:∀g v,C.gl g=some v->v.top<=(st 0).s.hp.length) {ro:Option Nat} {Q:Exit->Act->World->Prop}
 (hQ:∀(S:Nat->Prop) ρ H a w,(∀i,i<il.length->S i)->Inv C il st r bits ρ0 w0 df S ρ H a w->Q .normal a w) :
 ∀(fuel:Nat) (listed:Array Bool) (ρ:aW) (H:ab) (a:Act) (w:World),listed.size=ops.size->Inv C il st r bits ρ0 w0 df (fun i=>listed[i]? = some true) ρ H a w->listed.toList.count false<=fuel ->
  wpAnyIn (FR ro) 0 C.P .any ops Q fuel listed a w:=by
 have hlen:il.length=ops.size:=by have:=(sJ hil).1;simpa using this
 intro fuel;induction fuel with
 | zero=>
  intro listed ρ H a w hsz I hc;have hall:∀i,i<ops.size->listed[i]? = some true:=fun i hi=>by
   have:=all_true listed.toList ac i bc;grind
  refine⟨?_,hQ _ ρ H a w bc I⟩;rw[List.eq_nil_iff_forall_not_mem];intro i hi;obtain⟨h1,o,h2,_⟩:=mem_ready.1 hi;have hi':=(i6.1 h2).1<;>simp_all
 | succ fuel ih=>
  intro listed ρ H a w hsz I hc;refine⟨fun hr=>?_,fun k hk=>?_⟩
  . refine hQ _ ρ H a w (fun i=>?_) I;induction i using jV with
    | _ i ihi=>
     intro hi;have hi':i<ops.size:=by omega
     have hl:i<listed.size:=by omega
     cases hq:listed[i] with
     | true=>grind
     | false=>
      exfalso;have:i∈Region.ready .any ops listed:=by
       rw[mem_ready];refine⟨by simp_all,ops[i],ax,fun e he hb=>?_⟩;have hon:=(HQ (bits:=bits) hbits (i:=i) (o:=ops[i]) ax).1 e he hb;have:=ihi e.on hon ac;rw[cC,this];rfl
      grind
  . obtain⟨h1,o,h2,h3⟩:=mem_ready.1 hk;have hk':=(i6.1 h2).1;have hl:k<listed.size:=by omega
    have hkf:listed[k]? = some false:=by
     rw[cC]at h1;cases hq:listed[k]? with
     | none=>grind
     | some b=>grind
    refine Inv.step hcall T hil hbits hdraw hnd hlt hpl hgl I h2 bc (fun e he hb=>?_) ?_
    . have:=h3 e he hb;rw[cC]at this;grind
    grind
theorem Sr (hcall:nd C.P C.gl call)(hmix:C.P.follows .mixedOrders=true)(hwr:∀g as h r,call g as h=some r->gk h r){ro:Option Nat}{id:Nat}{ρ:aW}{a:Act}{w:World}(hil:kE C ops.toList ops.toList=some il)(hbits:qm ops.toList bits=true)(hdraw:qo il bits=true)
 {Q:Exit->Act->World->Prop} {s s':au} (rel:Rel C ρ s.s a w) (hq:eK call (fP C.P) (il.zipIdx.map fun (o,i)=>(o,jZ (bits.getD i 0) i)) ⟨{ s.s with lo:=[] },s.wr⟩ []=some s')
 (hQ:∀ρ' a' w',Rel C ρ' s'.s a' w'->Ext s.s.hp s'.s.hp ρ ρ' w w'->a'.defers=a.defers->s'.s.cI=s.s.cI->Q .normal a' w'):(Code.region id ops true).wpIn (FR ro) 0 C.P Q a w:=by
 obtain⟨hlen,hget⟩:=sJ hil;have hlen':il.length=ops.size:=by simpa using hlen
 obtain⟨st,h0,r,_,e2,e3,e4⟩:=trace _ _ [] s' (fun _=>s) (fun _=>[]) (fun _=>⟨.dO,[],[]⟩) (by intro j d hj;simp at hj) hq;simp only[f9,gD,m6,List.length_zipIdx]at e2 e3 e4;have T:oE call (fP C.P) il (fun k=>jZ (bits.getD k 0) k) st h0 r:=by
  refine⟨fun k o ho=>e4 k o _ ?_,hwr⟩;rw[d7,List.getElem?_zipIdx,ho];simp
 have hst0:(st 0).s.hp=s.s.hp:=by rw[e2]
 have hpe0:(st 0).s.pe=s.s.pe:=by rw[e2]
 have hn:(st il.length)=s':=e3;have er:=rel.er;have hgl:∀g v,C.gl g=some v->v.top<=(st 0).s.hp.length:=fun g v hg=>by
  rw[hst0];exact(rel.mem.gl g v hg).top fun b hb=>rel.mem.fresh b hb
 refine wpIn_region_any hmix ?_;have md:=rel.mem.drew (w.drawn+1);have xd:=Ext.drew s.s.hp ρ w (w.drawn+1);have hmono:=T.jn (i:=0) (j:=il.length) ac (c6 _);let H0:ab:=s.s.hp++fo ((st il.length).s.hp.length-s.s.hp.length) (some .hole)
 have hH0:∀b,H0[b]? = if b<s.s.hp.length then s.s.hp[b]? else if b<(st il.length).s.hp.length then some (some .hole) else none:=by
  intro b;simp only[H0];rw[j2];split
  . rfl
  . grind
 have hH0len:H0.length=(st il.length).s.hp.length:=by
  simp only[H0];rw[hst0]at hmono;simp;omega
 have hext:Ext (st 0).s.hp H0 ρ ρ w { w with drawn:=w.drawn+1 }:=by
  rw[hst0];refine⟨xd.os,xd.tape,xd.output,xd.size,bc,rfl,?_,xd.same,xd.live,xd.dead,xd.nil,xd.di,xd.back,xd.shape⟩;intro b hb;rw[hH0 b,if_pos (be.1 hb).1];exact hb
 have hmem:Mem C.P C.gl ρ H0 { w with drawn:=w.drawn+1 }:=by
  refine⟨?_,?_,md.inj,md.bound,md.xb,md.xo,md.gl⟩
  . intro b o hb;rw[hH0 b]at hb;split at hb
    . exact md.dP b o hb
    . split at hb
      . cases hb;exact md.fresh b ac
      grind
  . intro b hb;rw[hH0len]at hb;rw[hst0]at hmono;exact md.fresh b ac
 have init:Inv C il st r bits ρ w a.defers (fun i=>(j0 ops.size false)[i]? = some true) ρ H0 a { w with drawn:=w.drawn+1 }:=by
  have hnone:∀i:Nat,¬(j0 ops.size false)[i]? = some true:=by
   intro i h;rw[Array.getElem?_replicate]at h;split at h <;> cases h
  refine⟨hH0len,hmem,hext,?_,?_,?_,er.size,rfl,?_⟩
  . intro k hk _ b h1 h2;have g1:=T.jn (i:=0) (j:=k) ac ac;have g2:=T.vN hk;have g3:=T.jn (i:=k+1) (j:=il.length) ac (c6 _)<;>grind
  . intro b k hk h1 _ o ho;have hst:=T.stays (i:=0) (b:=b) (m:=k) ac hk bc;rw[hst,hst0]at ho;have hlt:=(be.1 ho).1;refine⟨bc,?_⟩;have h3:=(rel.mem.dP b o ho).top (n:=s.s.hp.length) fun b hb=>rel.mem.fresh b hb
    have g1:=T.jn (i:=0) (j:=k) ac hk<;>grind
  . intro y k hk h1 _ v hv;have hst:=T.Bj (i:=0) (y:=y) (m:=k) ac hk bc;rw[hst,e2]at hv;have g1:=T.jn (i:=0) (j:=k) ac hk;rw[hst0]at g1;cases y with
    | p i=>
     simp only[St.ae]at hv;have hi:=(be.1 hv).1;have hp:=er.lE;refine⟨fun t ht=>(er.pe i v t hv ht).mono xd,.inr ?_⟩;have h3:=(er.pe i v C.aY[i] hv ax).top (n:=s.s.hp.length) fun b hb=>rel.mem.fresh b hb<;>grind
    | l t=>simp[St.ae]at hv
    | c c=>exact⟨trivial,.inl ⟨c,rfl⟩⟩
  . grind
 refine Sq hcall T hil hbits hdraw er.nodup er.lt (by rw[hpe0];exact er.lE) hgl (ρ0:=ρ) (w0:=w) (df:=a.defers) ?_ ops.size _ ρ H0 a _ ax init ?_
 . intro S ρ1 H a1 w1 hall I;have hblk:∀b o,(st il.length).s.hp[b]? = some (some o)->H[b]? = some (some o):=fun b o ho=>
    (I.heap b il.length (c6 _) bc ac o ho).1
   have hslot:∀y v,(st il.length).s.ae y=some v->VS C ρ1 w1 a1.tmps y v:=fun y v hv=>
    (I.slot y il.length (c6 _) bc (fun j o hj ho=>by
     grind) v hv).1
   rw[hn]at hblk hslot;have hl1:H.length=s'.s.hp.length:=by rw[I.hlen,hn]
   refine hQ ρ1 a1 w1 ⟨⟨I.size,er.nodup,er.lt,?_,fun i v t hv ht=>hslot (.p i) v hv t ht,fun t v hv=>hslot (.l t) v hv⟩,?_⟩ ?_ I.ie ?_
   . rw[←hn,T.HP (c6 _),hpe0];exact er.lE
   . exact⟨fun b o hb=>I.mem.dP b o (hblk b o hb),fun b hb=>I.mem.fresh b ac,I.mem.inj,I.mem.bound,I.mem.xb,I.mem.xo,I.mem.gl⟩
   . have x:=I.ext;rw[hst0]at x;refine⟨x.os,x.tape,x.output,x.size,bc,x.X,fun b hb=>?_,x.same,x.live,x.dead,x.nil,x.di,x.back,x.shape⟩;rw[←hn];exact T.dO bc (c6 _)
   . rw[←hn,T.cI (c6 _),e2]
 simp
end Go.Ab
namespace Go.Ab
variable {c:Code}
variable {P:Program} {gl:Nat->Option AV} {ρ:aW} {w:World} {h:ab} {C:Cx} {s:St} {a:Act}
section scope
variable {F:Fence} {n:Nat} {b:Frame} {k:List Item} {cs:List Frame} {Q:Exit->Act->World->Prop}
theorem qE:step P (lone (b.atR a (.code (.scope c)::k)) cs w) = .next (lone (b.atR a (.code c :: .inScope c::k)) cs w):=
 (by rfl)
theorem Ss:step P (lone (b.atR a (.inScope c::k)) cs w) = .next (lone (b.atR a k) cs w):=
 (by rfl)
def noGoto (Q:Exit->Act->World->Prop):Exit->Act->World->Prop
 | .goto _,_,_=>False
 | e,a,w=>Q e a w
theorem Su (h:c.wpIn F n P (noGoto Q) a w):(Code.scope c).wpIn F n P Q a w:=by
 intro b k cs hro hb hr;have h0:(lone (b.atR a (.code (.scope c)::k)) cs w).fenced P F:=fenced_calm hb hr rfl;obtain⟨e,a₁,w₁,hq,harr⟩:=h b (.inScope c::k) cs hro hb hr;cases e with
 | normal=>exact⟨.normal,a₁,w₁,hq,.head h0 qE (StepsIn.trans harr (.one (fenced_calm hb hr rfl) Ss))⟩
 | exit id=>exact⟨_,a₁,w₁,hq,fun k' hk=>.head h0 qE (harr.1 k' (by simp[exitTo,hk])),
     fun hr' hk=>let ⟨k₁,h1,h2⟩:=harr.2 hr' (by simp[exitTo,hk]);⟨k₁,h1,.head h0 qE h2⟩⟩
 | goto l=>exact hq.elim
 | ret=>exact⟨_,a₁,w₁,hq,.of_steps (.one h0 qE) harr⟩
 | panic ch=>exact⟨_,a₁,w₁,hq,.of_steps (.one h0 qE) harr⟩
 | outgrown=>exact⟨_,a₁,w₁,hq,.of_steps (.one h0 qE) harr⟩
end scope
def gB (s s':au):Prop:=s.s.hp.length<=s'.s.hp.length/\(∀b∈s.wr,b∈s'.wr)/\∀b,b<s.s.hp.length->b∉s'.wr->s'.s.hp[b]? = s.s.hp[b]?
theorem gB.refl (s:au):gB s s:=⟨c6 _,fun _ h=>h,fun _ _ _=>rfl⟩
theorem gB.trans {s s1 s2:au}(x:gB s s1)(y:gB s1 s2):gB s s2:=
 ⟨Nat.le_trans x.1 y.1,fun b hb=>y.2.1 b (x.2.1 b hb),fun b hb hn=>by
  rw[y.2.2 b (gc hb x.1) hn,x.2.2 b hb (fun h=>hn (y.2.1 b h))]⟩
theorem gB.step {s:au}{q:HR}{x:St}(hx:x.hp=q.h)(hq:gk s.s.hp q):gB s ⟨x,q.wr++s.wr⟩:=
 ⟨by rw[hx];exact hq.1,fun b hb=>bc,fun b hb hn=>by
  simp only[dc,not_or]at hn;show x.hp[b]? = _;rw[hx];exact hq.2 b hb hn.1⟩
theorem gB.same {s:au}{x:St}(hx:x.hp=s.s.hp):gB s ⟨x,s.wr⟩:=⟨bc,fun _ h=>h,fun b _ _=>by grind⟩
theorem Bl (s:St)(d:fN)(v:AV):(s.put d v).hp=s.hp:=by cases d <;> rfl
theorem Bm {call:fc}{inv:fy}(hcall:∀g as h r,call g as h=some r->gk h r):∀(l:List bz) (s s':au),fH call inv l s=some s'->gB s s'
 | [],s,s',h=>by cases h;exact .refl _
 | o::l,s,s',h=>by
  simp only[fH]at h;split at h
  . split at h
    . rename_i q hq;exact(gB.step rfl (Bf hcall hq)).trans (Bm hcall l _ s' h)
    . cases h
  . exact(gB.same (Bl _ _ _)).trans (Bm hcall l _ s' h)
  . cases h
theorem Bn {call:fc}{inv:fy}:∀(l:List bz) (s s':au),fH call inv l s=some s'->s'.s.cI=s.s.cI
 | [],s,s',h=>by cases h;rfl
 | o::l,s,s',h=>by
  have hp:∀(s:St) (d:fN) (v:AV),(s.put d v).cI=s.cI:=fun s d v=>by cases d <;> rfl
  simp only[fH]at h;split at h
  . split at h
    . exact(Bn l _ s' h).trans (hp _ _ _)
    . cases h
  . exact(Bn l _ s' h).trans (hp _ _ _)
  . cases h
theorem Sv {call:fc}{inv:fy}(hcall:∀g as h r,call g as h=some r->gk h r){l:List (bz×List Nat)}{s s':au}(h:eK call inv l s []=some s'):gB s s':=by
 obtain⟨st,h0,r,_,e2,e3,e4⟩:=trace l s [] s' (fun _=>s) (fun _=>[]) (fun _=>⟨.dO,[],[]⟩) (by intro j d hj;simp at hj) h;simp only[f9,gD]at e2 e3 e4;have key:∀k,k<=l.length->gB (st 0) (st k):=by
  intro k;induction k with
  | zero=>intro _;exact .refl _
  | succ k ih=>
   intro hk;refine(ih ac).trans ?_;have sk:=e4 k l[k].1 l[k].2 (bj ac);have hwr:gk (h0 k) (r k):=by
    obtain⟨b,_,h1,h2⟩:=sk.wanted;cases b with
    | true=>exact Bf hcall (h1 rfl)
    | false=>rw[h2 rfl];exact qC _
   have hl:(st k).s.hp.length<=(r k).h.length:=by have:=hwr.1;rw[sk.len]at this;exact this
   rw[sk.next];refine⟨by grind[sI],fun b hb=>bc,fun b hb hn=>?_⟩;simp only[dc,not_or]at hn;show (gg (r k).wr (st k).s.hp (r k).h 0)[b]? = _;rw[kJ _ _ _ _ _ hl,if_pos hb];grind
 grind
def DF (ρ:aW)(ds:List Nat)(l:List Deferred):Prop:=
 ds.length=l.length/\∀(i:Nat) b d,ds[i]? = some b->l[i]? = some d->∃c,d = { target:=.collected c,args:=#[] }/\(ρ b = .live c 0\/ρ b = .dead)
theorem DF.mono {h h':ab}{ρ ρ':aW}{w w':World}(x:Ext h h' ρ ρ' w w'){ds:List Nat}{l:List Deferred}(hd:DF ρ ds l):DF ρ' ds l:=
 ⟨hd.1,fun i b d h1 h2=>by
  obtain⟨c,h3,h4⟩:=hd.2 i b d h1 h2;refine⟨c,h3,?_⟩;rcases h4 with h4|h4
  . exact x.live _ _ _ h4
  . exact .inr (x.dead _ h4)⟩
theorem Bo:∀(ds:List Nat) (s s':au),mu ds s=some s'->gB s s'/\s'.s.pe=s.s.pe/\s'.s.lo=s.s.lo
 | [],s,s',h=>by cases h;exact⟨.refl _,rfl,rfl⟩
 | d::ds,s,s',h=>by
  simp only[mu]at h;split at h
  . obtain⟨h1,h2,h3⟩:=Bo ds _ s' h;refine⟨gB.trans ⟨by simp[ab.put],fun b hb=>bc,fun b hb hn=>?_⟩ h1,h2,h3⟩;simp only[cP,not_or]at hn;exact mT hn.1
  . cases h
theorem HT {F:Fence}{n:Nat}{fn:Func}{tmps:Array Value}{R:Ending->World->Prop}:∀(ds:List Nat) (l:List Deferred) (s s':au) (w:World),DF ρ ds l->Mem P gl ρ s.s.hp w->mu ds s=some s' ->
 (∀w',Mem P gl ρ s'.s.hp w'->Ext s.s.hp s'.s.hp ρ ρ w w'->LeavesInM F n P fn tmps R [] .returning w')->LeavesInM F n P fn tmps R l .returning w
 | [],l,s,s',w,hd,m,hq,hk=>by
  have:l=[]:=by have:=hd.1;cases l <;> simp_all
  subst this;cases hq;grind[Ext.refl]
 | b::ds,[],s,s',w,hd,m,hq,hk=>by have:=hd.1;grind
 | b::ds,d::l,s,s',w,hd,m,hq,hk=>by
  simp only[mu]at hq;split at hq
  . rename_i hb;have h0:=qz hb;obtain⟨c,g1,g2⟩:=m.dP b _ h0;obtain⟨c',g3,g4⟩:=hd.2 0 b d rfl rfl;have:c'=c:=by
     rcases g4 with g4|g4
     . grind
     . grind
    subst this;have hO:∀cs0 e0 fr0,w.heap[c']? = some (.cells cs0 e0 fr0)->∃cs' fr',Obj.deferred none = .cells cs' e0 fr'/\cs'.size=cs0.size:=by
     intro _ _ _ hq';rw[g2]at hq';cases hq'
    have x:=Ext.write m h0 g1 none (.deferred none) hO;have m1:=Mem.write m h0 g1 none (.deferred none) hO ax;refine⟨ax,.inl ⟨c',w.dY c' (.deferred none),by rw[g3],?_,?_⟩⟩
    . simp[Instr.takeDeferred,mY g2,ou g2]
    . exact HT ds l _ s' _ ⟨by have:=hd.1;grind,fun i b d h1 h2=>hd.2 (i+1) b d bc bc⟩ m1 hq
       fun w' m' x'=>hk w' m' (x.trans x')
  grind
theorem HU {ρ ρ':aW}{w w':World}{h:ab}(m:Mem P gl ρ h w){s:au}(hwr:h.length<=s.s.hp.length/\∀b,b<h.length->b∉s.wr->s.s.hp[b]? = h[b]?){v:AV}{v':Value}(hv:V ρ' w' v v')(m':Mem P gl ρ' s.s.hp w')(x:Ext h s.s.hp ρ ρ' w w') :
 fE P gl ρ h w (gh v h.length s) v' w':=by
 unfold gh;split
 . rename_i hc;simp only[br,decide_eq_true_eq]at hc;obtain⟨htop,htight⟩:=hc;have hb:∀b,b<h.length->ρ b≠.fresh->True:=ax;have cut_lt:∀b,b<h.length->(jK h.length ρ') b=ρ' b:=fun b hb=>by simp only[jK];grind
   have cut_ge:∀b,h.length<=b->(jK h.length ρ') b = .fresh:=fun b hb=>by simp only[jK];grind
   have di:∀b,ρ b≠.fresh->b<h.length:=fun b hb=>by
    rcases bA b h.length with h'|h'
    . exact h'
    . exact absurd (m.fresh b h') hb
   have get:∀b,(s.s.hp.take h.length)[b]? = if b<h.length then s.s.hp[b]? else none:=fun b=>by
    grind
   refine⟨jK h.length ρ',hv.cut htop,?_,?_⟩
   . refine⟨?_,?_,?_,?_,m'.xb,?_,fun g u hg=>(m'.gl g u hg).cut ?_⟩
     . intro b o hb;rw[get b]at hb;split at hb
       . rename_i hlt;refine(m'.dP b o hb).ik (n:=h.length) cut_lt (fun c hc=>hc.cut _) hlt ?_;rcases j9 (b∈s.wr) with hw|hw
         . have:=c5.1 htight b hw;unfold ab.at at this;grind
         . rw[hwr.2 b hlt hw]at hb;exact(m.dP b o hb).top bc
       grind
     . grind
     . intro b b' c d d' h1 h2;simp only[jK]at h1 h2;split at h1
       . split at h2
         . exact m'.inj _ _ _ _ _ h1 h2
         grind
       grind
     . intro b c d h1;simp only[jK]at h1;split at h1
       . exact m'.bound _ _ _ h1
       grind
     . intro b c d h1;simp only[jK]at h1;split at h1
       . exact m'.xo _ _ _ h1
       grind
     . exact(m.gl g u hg).top bc
   . refine⟨x.os,x.tape,x.output,x.size,bc,x.X,?_,?_,?_,?_,?_,x.di,?_,x.shape⟩
     . intro b hb;have hlt:=(be.1 hb).1;rw[get b,if_pos hlt];exact x.dO b hb
     . intro b hb;have hlt:=(be.1 hb).1;rw[cut_lt b hlt];exact x.same b hb
     . intro b c d hb;rw[cut_lt b bc];exact x.live b c d hb
     . intro b hb;rw[cut_lt b bc];exact x.dead b hb
     . intro b hb;rw[cut_lt b bc];exact x.nil b hb
     . intro b c d hb hc;simp only[jK]at hb;split at hb
       . exact x.back b c d hb hc
       grind
 . exact⟨ρ',hv,m',x⟩
theorem HV {h:ab}{s:au}(hwr:h.length<=s.s.hp.length/\∀b,b<h.length->b∉s.wr->s.s.hp[b]? = h[b]?)(v:AV):gk h (gh v h.length s):=by
 unfold gh;have key:∀b,b<h.length->b∉s.wr.filter (· < h.length)->b∉s.wr:=by
  intro b hb hn hm;exact bc
 split
 . refine⟨bc,fun b hb hn=>?_⟩;grind
 . exact⟨hwr.1,fun b hb hn=>bc⟩
end Go.Ab
namespace Go.Ab
variable {P:Program} {gl:Nat->Option AV} {ρ:aW} {w:World} {h:ab} {C:Cx} {s:St} {a:Act}
def vP:Ex->Exit
 | .normal=>.normal
 | .exit i=>.exit i
 | .ret=>.ret
structure mB (P:Program)(gl:Nat->Option AV)(run:al->au->Option (Ex×au)):Prop where
 wr:∀c s e s',run c s=some (e,s')->gB s s'
 ok:∀c s e s',run c s=some (e,s')->∀aY N rd code,gu ⟨P,gl,aY,N⟩ rd code=some c->∀ρ a w ro,Rel ⟨P,gl,aY,N⟩ ρ s.s a w->DF ρ s.s.cI a.defers->(rd=false->ro=none) ->
  ∀Q:Exit->Act->World->Prop,(∀ρ' a' w',Rel ⟨P,gl,aY,N⟩ ρ' s'.s a' w'->DF ρ' s'.s.cI a'.defers->Ext s.s.hp s'.s.hp ρ ρ' w w'->Q (vP e) a' w')->code.wpIn (FR ro) 0 P Q a w
def nf (P:Program)(gl:Nat->Option AV)(FT:FuncId->Option dm):Prop:=
 ∀f fi, FT f = some fi -> ∃fn aY, P.funcs[f]? = some fn /\ (fn.name == "runtime.NumGoroutine") = false /\ vv P gl aY fn = some fi
def cW (P:Program)(gl:Nat->Option AV)(ext:FuncId->List AV->ab->Option HR):Prop:=
 ∀f all h r,ext f all h=some r->gk h r/\∀ρ w (as':List Value),Mem P gl ρ h w->VL ρ w all as' ->
  ∃nx w1,(callFunc f as'.toArray).run P w = .ok nx w1/\kc P nx w1 fun v w'=>fE P gl ρ h w r v w'
theorem Sw {aY:List Nat}{fn:Func}{fi:dm}(h:vv P gl aY fn=some fi) :
 ∃c,fn.body=some c/\gu ⟨P,gl,aY,fn.ntmps⟩ false c=some fi.body/\my ⟨P,gl,aY,fn.ntmps⟩ fn.results.toList=some fi.results/\fi.aY=aY/\fi.N=fn.ntmps/\(∀t∈aY,t<fn.ntmps)/\aY.Nodup:=by
 unfold vv at h;grind
def vW (tmps:Array Value):ResultVar->Sem Value
 | .tmp t=>pure (tmps.getD t undef)
 | .cell p t=>do loadVar t (←asAddr (tmps.getD p undef))
theorem Bp (r:Rel C ρ s a w):∀(l:List ResultVar) (cr:List fO) (vs:List AV),my C l=some cr->dK s cr=some vs ->
 ∃m:List Value,(l.mapM (vW a.tmps)).run C.P w = .ok m w/\VL ρ w vs m
 | [],cr,vs,h1,h2=>by
  simp only[my,ce.injEq]at h1;subst h1;simp only[dK,ce.injEq]at h2;subst h2;exact⟨[],ax,.nil⟩
 | .tmp t::l,cr,vs,h1,h2=>by
  simp only[my]at h1;split at h1
  . rename_i x l' hx hl;cases h1;simp only[dK]at h2;split at h2
    . rename_i v vs' hv hvs;cases h2;obtain⟨m,h3,h4⟩:=Bp r l l' vs' hl hvs;refine⟨a.tmps.getD t undef::m,?_,.cons (r.ae hx hv) h4⟩;rw[m7];simp only[vW,dz,fY,cT];rw[h3];rfl
    . cases h2
  . cases h1
 | .cell p t::l,cr,vs,h1,h2=>by
  simp only[my]at h1;split at h1
  . rename_i x n ag l' hx hs hl;cases h1;simp only[dK]at h2;split at h2
    . rename_i v vs' hv hvs;cases h2;obtain⟨m,h3,h4⟩:=Bp r l l' vs' hl hvs;simp only[Option.bind_eq_some_iff]at hv;obtain⟨px,g1,pl,g2,g3⟩:=hv;obtain⟨c,o,g,e1,e2⟩:=readable r.mem (r.ae hx g1) g2;obtain⟨v',e3,e4⟩:=Hr hs e2 g3;have e1':a.tmps.getD p undef = .pointer (some ⟨c,o,none⟩):=e1;refine⟨v'::m,?_,.cons e4 h4⟩;rw[m7];simp only[vW,dz,e1',asAddr,fY,cT,e3]<;>simp_all
    grind
  grind
theorem Sx {vs:List AV}{m:List Value}(h:VL ρ w vs m):V ρ w (bk vs) (if h:m.toArray.size=1 then m.toArray[0] else .tuple m.toArray):=by
 match vs,m,h with
 | [],m,h=>rw[h.kG];exact V.jm .nil
 | [v],m,h=>
  obtain⟨y,m',rfl,h1,h2⟩:=h.cons_inv;rw[h2.kG];exact h1
 | v::u::vs,m,h=>
  obtain⟨y,m',rfl,h1,h2⟩:=h.cons_inv;obtain⟨z,m'',rfl,h3,h4⟩:=h2.cons_inv;rw[dif_neg ax];exact V.jm ac
theorem Sy (r:Rel C ρ s a w){fn:Func}{cr:List fO}{vs:List AV}(h1:my C fn.results.toList=some cr)(h2:dK s cr=some vs) :
 ∃v,(results fn a.tmps).run C.P w = .ok v w/\V ρ w (bk vs) v:=by
 obtain⟨m,h3,h4⟩:=Bp r fn.results.toList cr vs h1 h2;refine⟨_,?_,Sx h4⟩;have e:results fn a.tmps=(do let vs ←fn.results.mapM (vW a.tmps);pure (if h:vs.size=1 then vs[0] else .tuple vs)):=by
  unfold results;congr 1
 rw[e,dz,Array.mapM_eq_mapM_toList,Sem.run_map,h3];rfl
theorem Sz {aY:List Nat}{N:Nat}{all:List AV}{as':List Value}(hv:VL ρ w all as')(hn:as'.length<=N)(hlt:∀t∈aY,t<N)(hnd:aY.Nodup) :
 ER ⟨P,gl,aY,N⟩ ρ w (aY.map fun t=>(all[t]?).getD cM) [] (as'.toArray++j0 (N-as'.toArray.size) undef):=by
 refine⟨bc,hnd,hlt,ax,fun i v t h1 h2=>?_,ax⟩;simp only[d7,bZ]at h1;obtain⟨u,h3,rfl⟩:=h1;have h2':aY[i]? = some t:=h2;rw[h3]at h2';obtain rfl:u=t:=bc;rw[cC,Array.getElem?_append];split
 . rename_i hlt';have hl:u<as'.length:=by simpa using hlt'
   have hl2:u<all.length:=by rw[hv.length];exact hl
   have:=hv.2 u all[u] as'[u] (bj hl2) (bj hl)<;>grind
 . rename_i hge;have hl:as'.length<=u:=by simpa using hge
   have hl2:all.length<=u:=by rw[hv.length];exact hl
   grind[gT,V.undef]
theorem HW {run:al->au->Option (Ex×au)}(hrun:mB P gl run){FT:FuncId->Option dm}{f:FuncId}{all:List AV}{h:ab}{q:HR}(hq:iF run FT f all h=some q):gk h q:=by
 unfold iF at hq;split at hq <;> try (cases hq;done)
 split at hq <;> try (cases hq;done)
 split at hq <;> try (cases hq;done)
 rename_i e s hr;split at hq <;> try (cases hq;done)
 split at hq <;> try (cases hq;done)
 rename_i s2 ht;split at hq <;> try (cases hq;done)
 cases hq;have h1:=hrun.wr _ _ _ _ hr;have h2:=(Bo _ _ _ ht).1;have h3:=h1.trans h2;exact HV ⟨h3.1,fun b hb hn=>h3.2.2 b hb hn⟩ _
theorem vY {run:al->au->Option (Ex×au)}(hrun:mB P gl run){FT:FuncId->Option dm}(hFT:nf P gl FT){f:FuncId}{all:List AV}{h:ab}{q:HR}(hq:iF run FT f all h=some q)
 {as':List Value} (m:Mem P gl ρ h w) (hv:VL ρ w all as') :
 (callFunc f as'.toArray).run P w = .ok (.enter f as'.toArray) w/\CallsIn Fence.wide 0 P f as'.toArray w fun
   | .returned v,w'=>fE P gl ρ h w q v w'
   | _,_=>False:=by
 unfold iF at hq;split at hq <;> try (cases hq;done)
 rename_i fi hfi;obtain⟨fn,aY,hfn,hname,hcf⟩:=hFT f fi hfi;obtain⟨c,hbody,hcode,hres,rfl,hN,hlt,hnd⟩:=Sw hcf;split at hq <;> try (cases hq;done)
 rename_i hnl;split at hq <;> try (cases hq;done)
 rename_i e s hr;split at hq <;> try (cases hq;done)
 rename_i he;split at hq <;> try (cases hq;done)
 rename_i s2 ht;split at hq <;> try (cases hq;done)
 rename_i vs hvs;cases hq;refine⟨?_,?_⟩
 . have hne : fn.name ≠ "runtime.NumGoroutine" := by simpa using hname
   simp[callFunc,hfn,hne,hbody]
 . refine callsIn_of_wp_marks (F:=Fence.wide) (n:=0) hfn hbody trivial ?_;have hlen:as'.length<=fn.ntmps:=by rw[←hv.length];omega
   have er:=Sz (P:=P) (gl:=gl) hv hlen hlt hnd;refine hrun.ok _ _ _ _ hr fi.aY fn.ntmps false c hcode ρ _ w none ⟨er,m⟩ ⟨rfl,ax⟩ (fun _=>rfl) _ ?_;intro ρ' a' w' r' d' x';have hfin:LeavesInM Fence.wide 0 P fn a'.tmps (fun
    | .returned v,w'=>fE P gl ρ h w (gh (bk vs) h.length s2) v w'
    | _,_=>False) a'.defers .returning w':=by
    refine HT s.s.cI a'.defers s s2 w' d' r'.mem ht ?_;intro w2 m2 x2;have hx:=Bo _ _ _ ht;have r2:Rel ⟨P,gl,fi.aY,fn.ntmps⟩ ρ' s2.s a' w2:=⟨by rw[hx.2.1,hx.2.2];exact r'.er.mono x2,m2⟩;obtain⟨v,g1,g2⟩:=Sy r2 hres hvs;have h3:=(hrun.wr _ _ _ _ hr).trans hx.1;exact⟨v,g1,HU m ⟨h3.1,fun b hb hn=>h3.2.2 b hb hn⟩ g2 m2 (x'.trans x2)⟩
   rcases he with rfl|rfl
   . exact hfin
   . exact hfin
end Go.Ab
namespace Go.Ab
variable {run:al->au->Option (Ex×au)}
variable {P:Program} {gl:Nat->Option AV} {ρ:aW} {w:World} {h:ab} {C:Cx} {s:St} {a:Act}
theorem HX {C:Cx}:∀(ts:List Tmp) (ds:List fN) (as:List AV) (as':List Value) (s s0:St) (tmps:Array Value),mR C ts=some ds->VL ρ w as as'->ER C ρ w s.pe s.lo tmps->qj s ds as=some s0 ->
 ts.length=as'.length/\ER C ρ w s0.pe s0.lo ((ts.zip as').foldl (fun tmps (t,a)=>tmps.setIfInBounds t a) tmps)/\s0.hp=s.hp/\s0.cI=s.cI
 | [],ds,as,as',s,s0,tmps,hd,hv,er,hq=>by
  cases hd;cases as with
  | nil=>cases hq;rw[hv.kG];simp_all
  | cons _ _=>cases hq
 | t::ts,ds,as,as',s,s0,tmps,hd,hv,er,hq=>by
  simp only[mR]at hd;split at hd
  . rename_i d l h1 h2;cases hd;cases as with
    | nil=>cases hq
    | cons x as=>
     obtain⟨y,as',rfl,hy,hl⟩:=hv.cons_inv;simp only[qj]at hq;have er':=Bc (s:=s) (a:=⟨tmps,[]⟩) (er:=er) h1 hy s.hp;have e:({ s.put d x with hp:=s.hp }:St)=s.put d x:=by cases d <;> rfl
     rw[e]at er';obtain⟨g1,g2,g3,g4⟩:=HX ts l as as' (s.put d x) s0 _ h2 hl er' hq;exact⟨by simp[g1],g2,g3.trans (Bl _ _ _),g4.trans (by cases d <;> rfl)⟩
  grind
theorem vZ {c:Nat}{r:Loop}(h:w.heap[c]? = some (.loop r)):(Instr.getLoop c).run P w = .ok r w:=by
 simp[Instr.getLoop,mY h]
theorem wc (m:Mem P gl ρ h w){b:Nat}{st:LoopState}{pend:Option Ex}{pe:List AV}{ps:List fN}{as bd:al}(hb:h.at b=some (.loop st pend pe ps as bd)) :
 h[b]? = some (some (.loop st pend pe ps as bd))/\∃c r aY N,ρ b = .live c 0/\w.heap[c]? = some (.loop r)/\r.state=st/\oe pend r.pending /\
  ER ⟨P,gl,aY,N⟩ ρ w pe [] r.tmps/\mR ⟨P,gl,aY,N⟩ r.params.toList=some ps/\gu ⟨P,gl,aY,N⟩ true r.assign=some as/\gu ⟨P,gl,aY,N⟩ true r.body=some bd:=
 ⟨qz hb,m.dP b _ (qz hb)⟩
theorem Br (m:Mem P gl ρ h w){b c:Nat}{o0:bV}(h0:h[b]? = some (some o0))(hρ:ρ b = .live c 0){r:Loop}(hr:w.heap[c]? = some (.loop r))(r':Loop){st':LoopState}{pend':Option Ex}{pe:List AV}{ps:List fN}{as bd:al}{aY:List Nat}{N:Nat}
 (hst:r'.state=st') (hp:oe pend' r'.pending) (er:ER ⟨P,gl,aY,N⟩ ρ w pe [] r'.tmps) (h1:mR ⟨P,gl,aY,N⟩ r'.params.toList=some ps) (h2:gu ⟨P,gl,aY,N⟩ true r'.assign=some as) (h3:gu ⟨P,gl,aY,N⟩ true r'.body=some bd) :
 Mem P gl ρ (h.put b (some (.loop st' pend' pe ps as bd))) (w.dY c (.loop r'))/\Ext h (h.put b (some (.loop st' pend' pe ps as bd))) ρ ρ w (w.dY c (.loop r')):=by
 have hO:∀cs0 e0 fr0,w.heap[c]? = some (.cells cs0 e0 fr0)->∃cs' fr',Obj.loop r' = .cells cs' e0 fr'/\cs'.size=cs0.size:=by
  intro _ _ _ hq';rw[hr]at hq';cases hq'
 have x:=Ext.write m h0 hρ (some (.loop st' pend' pe ps as bd)) (.loop r') hO;refine⟨Mem.write m h0 hρ _ _ hO ?_,x⟩;intro o' ho;cases ho;exact⟨c,r',aY,N,hρ,oh bc,hst,hp,er.mono x,h1,h2,h3⟩
def nh (run:al->au->Option (Ex×au))(b:Nat)(as:List AV)(h:ab):Option HR:=
 match h.at b with
 | some (.loop .ready none pe ps a bd)=>
  match qj ⟨pe,[],h,[]⟩ ps as with
  | some s0=>match run a ⟨s0,[]⟩ with
    | some (.normal,s1)=>match s1.s.hp.at b with
      | some (.loop .ready none pe' ps' a' bd')=>
       match run bd ⟨{ s1.s with hp:=s1.s.hp.put b (some (.loop .busy none pe' ps' a' bd')) },b::s1.wr⟩ with
       | some (e,s2)=>match s2.s.hp.at b,s2.s.cI with
         | some (.loop .busy none pe' ps' a' bd'),[]=>
          some (gh (.bool (decide (e = .normal))) h.length ⟨{ s2.s with hp:=s2.s.hp.put b (some (if e = .normal then .loop .ready none pe' ps' a' bd' else .loop .done (some e) pe' ps' a' bd')) },b::s2.wr⟩)
         | _,_=>none
       | none=>none
      | _=>none
    | _=>none
  | none=>none
 | _=>none
theorem we (s:au)(b:Nat)(o:Option bV):gB s ⟨{ s.s with hp:=s.s.hp.put b o },b::s.wr⟩:=
 ⟨by simp[ab.put],fun _ hb=>bc,fun b' _ hn=>by
  simp only[cP,not_or]at hn;exact mT hn.1⟩
theorem HY:∀(ds:List fN) (as:List AV) (s s0:St),qj s ds as=some s0->s0.hp=s.hp
 | [],[],s,s0,h=>by cases h;rfl
 | [],_::_,s,s0,h=>by cases h
 | _::_,[],s,s0,h=>by cases h
 | d::ds,v::as,s,s0,h=>(HY ds as _ s0 h).trans (Bl _ _ _)
theorem SA (hrun:mB P gl run){b:Nat}{as:List AV}{h:ab}{q:HR}(hq:nh run b as h=some q):gk h q:=by
 unfold nh at hq;split at hq <;> try (cases hq;done)
 split at hq <;> try (cases hq;done)
 rename_i s0 hp;split at hq <;> try (cases hq;done)
 rename_i s1 hr1;split at hq <;> try (cases hq;done)
 split at hq <;> try (cases hq;done)
 rename_i e s2 hr2;split at hq <;> try (cases hq;done)
 rename_i pe2 ps2 ai2 bi2 hb2 hd2;cases hq;have h1:=hrun.wr _ _ _ _ hr1;have h2:=hrun.wr _ _ _ _ hr2;have h3:=(h1.trans (we s1 b _)).trans h2;have h4:=h3.trans (we s2 b (some (if e = .normal then .loop .ready none pe2 ps2 ai2 bi2 else .loop .done (some e) pe2 ps2 ai2 bi2)));have hhp:=HY _ _ _ _ hp;refine HV ⟨?_,?_⟩ _
 . have:=h4.1;grind
 . intro b' hb' hn;have:=h4.2.2 b' bc hn;grind
theorem SB (l:Nat):Fence.wide.inRound l=FR (some l):=rfl
theorem SC (hrun:mB P gl run){b:Nat}{as:List AV}{h:ab}{q:HR}(hq:nh run b as h=some q)(m:Mem P gl ρ h w){g':Value}(hg:V ρ w (.fn (.yield b) [] []) g')
 {as':List Value} (hv:VL ρ w as as'):∃nx w1,(ox g' as'.toArray).run P w = .ok nx w1/\kc P nx w1 fun v w'=>fE P gl ρ h w q v w':=by
 have hq0:=hq;unfold nh at hq;split at hq <;> try (cases hq;done)
 rename_i pe ps ai bi hb;split at hq <;> try (cases hq;done)
 rename_i s0 hp;split at hq <;> try (cases hq;done)
 rename_i s1 hr1;split at hq <;> try (cases hq;done)
 rename_i pe1 ps1 ai1 bi1 hb1;split at hq <;> try (cases hq;done)
 rename_i e s2 hr2;split at hq <;> try (cases hq;done)
 rename_i pe2 ps2 ai2 bi2 hb2 hd2;cases hq;obtain⟨h0,c,r,aY,N,g1,g2,g3,g4,g5,g6,g7,g8⟩:=wc m hb;have hge:g' = .func (.yield c) #[] #[]:=by
  cases hg with
  | yield hρ=>grind
  | fn hf=>grind
  | iN _ hρ=>grind
 subst hge;obtain⟨p1,p2,p3,p4⟩:=HX (C:=⟨P,gl,aY,N⟩) r.params.toList ps as as' ⟨pe,[],h,[]⟩ s0 r.tmps g6 hv g5 hp;have hsz:as'.toArray.size=r.params.size:=by simpa using p1.symm
 let tm:=(r.params.zip as'.toArray).foldl (fun tmps (t,a)=>tmps.setIfInBounds t a) r.tmps
 have htm:tm=(r.params.toList.zip as').foldl (fun tmps (t,a)=>tmps.setIfInBounds t a) r.tmps:=by
  simp only[tm,←Array.foldl_toList,Array.toList_zip]
 refine⟨.round c r.fn tm r.assign r.body,w,?_,?_⟩
 . simp only[ox,Deferred.ofValue,invoke,dz,fY,cT,Instr.yield];rw[vZ g2];simp[hsz,tm]
 . refine roundIn_of_wpIn (F:=Fence.wide) (n:=0) trivial ?_;rw[SB];have w1:=hrun.wr _ _ _ _ hr1;have w2:=hrun.wr _ _ _ _ hr2;refine hrun.ok ai ⟨s0,[]⟩ .normal s1 hr1 aY N true r.assign g7 ρ ⟨tm,[]⟩ w (some c) ⟨bc,bc⟩ ⟨bc,fun i b d hi _=>by grind⟩ ax _ ?_;intro ρ1 a1 v1 r1 d1 x1;rw[show (au.mk s0 []).s.hp=h from p3]at x1;obtain⟨h1',c1,rr1,pers1,N1,k1,k2,k3,k4,k5,k6,k7,k8⟩:=wc r1.mem hb1;have hc1:c1=c:=by
    rcases x1.live b c 0 g1 with hh|hh
    . grind
    . grind
   subst hc1;obtain⟨m2,x2⟩:=Br (st':=.busy) r1.mem h1' k1 k2 { rr1 with state:=.busy } rfl k4 k5 k6 k7 k8;refine⟨v1.dY c1 (.loop { rr1 with state:=.busy }),?_,?_⟩
   . simp[Instr.beginRound,vZ k2,ou k2,k3]
   . refine hrun.ok bi _ e s2 hr2 aY N true r.body g8 ρ1 a1 _ (some c1) ⟨r1.er.mono x2,m2⟩ (d1.mono x2) ax _ ?_;intro ρ2 a2 v2 r2 d2 x3;obtain⟨h2',c2,rr2,pers2,N2,l1,l2,l3,l4,l5,l6,l7,l8⟩:=wc r2.mem hb2;have hc2:c2=c1:=by
      rcases x3.live b c1 0 k1 with hh|hh
      . grind
      . grind
     subst hc2;have fin:∀(jump:Option Code) (st':LoopState) (pend':Option Ex),oe pend' jump->(if jump.isNone then LoopState.ready else LoopState.done)=st'->jump.isNone=decide (e = .normal) ->
      (if e = .normal then bV.loop .ready none pe2 ps2 ai2 bi2 else .loop .done (some e) pe2 ps2 ai2 bi2) = .loop st' pend' pe2 ps2 ai2 bi2 ->
      ∃v w',(Instr.endRound c2 jump).run P v2 = .ok v w'/\fE P gl ρ h w (gh (.bool (decide (e = .normal))) h.length ⟨{ s2.s with hp:=s2.s.hp.put b (some (if e = .normal then .loop .ready none pe2 ps2 ai2 bi2 else .loop .done (some e) pe2 ps2 ai2 bi2)) },b::s2.wr⟩) v w':=by
      intro jump st' pend' q1 q2 q3 q4;obtain⟨m4,x4⟩:=Br (st':=st') (pend':=pend') r2.mem h2' l1 l2 { rr2 with state:=if jump.isNone then .ready else .done,pending:=jump } q2 q1 l5 l6 l7 l8;refine⟨.bool jump.isNone,v2.dY c2 (.loop { rr2 with state:=if jump.isNone then .ready else .done,pending:=jump }),?_,?_⟩
      . simp[Instr.endRound,vZ l2,ou l2]
      . have h3:=(w1.trans (by grind[we])).trans w2;have h4:=h3.trans (we s2 b (some (if e = .normal then .loop .ready none pe2 ps2 ai2 bi2 else .loop .done (some e) pe2 ps2 ai2 bi2)));refine HU (ρ':=ρ2) m ⟨?_,?_⟩ (by rw[q3];exact .bool _) bc (by rw[q4];exact((x1.trans x2).trans x3).trans x4)
        . have:=h4.1;grind
        . intro b' hb' hn;have:=h4.2.2 b' bc hn;grind
     cases e with
     | normal=>exact fin none .ready none trivial rfl ax ax
     | ret=>exact fin (some .ret) .done (some .ret) trivial rfl ax ax
     | exit i=>exact fin (some (.exit i)) .done (some (.exit i)) rfl rfl ax ax
theorem Bs (hrun:mB P gl run){ext:FuncId->List AV->ab->Option HR}(hext:cW P gl ext){FT:FuncId->Option dm}(hFT:nf P gl FT):nd P gl (iM run ext FT):=by
 have round_eq:∀b as h,iM run ext FT (.fn (.yield b) [] []) as h=nh run b as h:=fun _ _ _=>rfl
 refine⟨fun g as h r hq=>?_,fun g as h r hq ρ w g' as' m hg hv=>?_⟩
 . cases g <;> try (cases hq;done)
   rename_i f fi ca;cases f <;> try (cases hq;done)
   . simp only[iM]at hq;split at hq
     . rename_i q hq1;cases hq;exact(hext _ _ _ _ hq1).1
     grind[HW]
   . cases fi <;> cases ca <;> try (cases hq;done)
     grind[SA]
 . cases g <;> try (cases hq;done)
   rename_i f fi ca;cases f <;> try (cases hq;done)
   . rename_i f;cases hg with
     | @fn _ _ _ fi' ca' hf h1 h2 g1 g2=>
      have hall:VL ρ w (fi++as++ca) (fi'++as'++ca'):=(VL.append ⟨h1,g1⟩ hv).append ⟨h2,g2⟩;have happ:∀(nx:Next) (w1:World),(callFunc f (fi'++as'++ca').toArray).run P w = .ok nx w1->(ox (.func (.func f) fi'.toArray ca'.toArray) as'.toArray).run P w = .ok nx w1:=by
       intro nx w1 hc;simp only[ox,Deferred.ofValue,invoke,dz,fY,cT];rw[←hc];congr 2;simp
      simp only[iM]at hq;split at hq
      . rename_i q hq1;cases hq;obtain⟨nx,w1,h3,h4⟩:=(hext _ _ _ _ hq1).2 ρ w _ m hall<;>grind
      . obtain⟨h3,h4⟩:=vY hrun hFT hq m hall;exact⟨_,_,happ _ _ h3,h4⟩
   . cases fi <;> cases ca <;> try (cases hq;done)
     grind[SC]
end Go.Ab
namespace Go.Ab
variable {P:Program} {gl:Nat->Option AV} {ρ:aW} {w:World} {h:ab} {s:St} {a:Act} {ext:FuncId->List AV->ab->Option HR} {FT:FuncId->Option dm}
theorem SD (hext:cW P gl ext)(hFT:nf P gl FT):∀n,(∀k,k<n->mB P gl (bK ext (fP P) FT k))->∀c s e s',bK ext (fP P) FT n c s=some (e,s')->gB s s':=by
 intro n;cases n with
 | zero=>intro _ c s e s' hq;cases hq
 | succ n=>
  intro ih c s e s' hq;have ihn:=ih n ac;have hcall:=(Bs ihn hext hFT).wr;cases c <;> simp only[bK]at hq
  case skip=>cases hq;exact .refl _
  case region ops=>
   split at hq
   . rename_i s1 hr;cases hq;exact(gB.same (s:=s) (x:={ s.s with lo:=[] }) rfl).trans (Bm hcall _ _ _ hr)
   grind
  case draw ops=>
   split at hq
   . rename_i s1 hr;cases hq;exact(gB.same (s:=s) (x:={ s.s with lo:=[] }) rfl).trans (Sv hcall hr)
   grind
  case seq x y=>
   split at hq
   . rename_i s1 hr;exact(ihn.wr _ _ _ _ hr).trans (ihn.wr _ _ _ _ hq)
   . exact ihn.wr _ _ _ _ hq
  case cond x p q=>
   split at hq
   . exact ihn.wr _ _ _ _ hq
   grind
  case block id x=>
   split at hq
   . rename_i s1 hr;split at hq <;> (cases hq;exact ihn.wr _ _ _ _ hr)
   . exact ihn.wr _ _ _ _ hq
  case loop x=>
   split at hq
   . rename_i s1 hr;exact(ihn.wr _ _ _ _ hr).trans (ihn.wr _ _ _ _ hq)
   . exact ihn.wr _ _ _ _ hq
  case exit id=>cases hq;exact .refl _
  case ret=>cases hq;exact .refl _
  case rangeFunc inner f ps as bd=>
   split at hq
   . cases hq
   . split at hq
     . split at hq
       . rename_i r hr;split at hq
         . split at hq
           . cases hq
           . cases hq;have h1:=HW ihn hr;refine⟨?_,fun b hb=>by grind,fun b hb hn=>?_⟩
             . have:=h1.1;simp only[du,f6,f9]at this;simp[ab.put];omega
             . simp only[ip,cP,dc,not_or]at hn;show (r.h.set _ _)[b]? = _;rw[mT hn.1,h1.2 b bc hn.2.1,cZ hb]
         grind
       grind
     grind
  grind
theorem SE {p:Nat->Prop}(h:∃n,p n):∃n,p n/\∀m,p m->n<=m:=by
 obtain⟨n,hn⟩:=h;induction n using jV<;>grind
open Classical in
theorem SF {n:Nat}{aY:List Nat}{N:Nat}{rd:Bool}{code:Code}{c:al}(hcode:gu ⟨P,gl,aY,N⟩ rd code=some c)(ih:∀k,k<n->mB P gl (bK ext (fP P) FT k)){s s':au}{e:Ex}(hq:bK ext (fP P) FT n (.loop c) s=some (e,s'))
 {ro:Option Nat} (r:Rel ⟨P,gl,aY,N⟩ ρ s.s a w) (d:DF ρ s.s.cI a.defers) (eu:rd=false->ro=none) {Q:Exit->Act->World->Prop}
 (hQ:∀ρ' a' w',Rel ⟨P,gl,aY,N⟩ ρ' s'.s a' w'->DF ρ' s'.s.cI a'.defers->Ext s.s.hp s'.s.hp ρ ρ' w w'->Q (vP e) a' w'):(Code.loop code).wpIn (FR ro) 0 P Q a w:=by
 let At:Nat->Act->World->Prop:=fun m a1 w1=>m<=n/\∃(s1:au) (ρ1:aW),bK ext (fP P) FT m (.loop c) s1=some (e,s')/\Rel ⟨P,gl,aY,N⟩ ρ1 s1.s a1 w1/\DF ρ1 s1.s.cI a1.defers/\Ext s.s.hp s1.s.hp ρ ρ1 w w1
 let I:Act->World->Prop:=fun a1 w1=>∃m,At m a1 w1
 let μ:Act->World->Nat:=fun a1 w1=>if h:∃m,At m a1 w1 then k9 (SE h) else 0
 have hμ:∀a1 w1 m,At m a1 w1->μ a1 w1<=m:=by
  intro a1 w1 m hm;have hex:∃m,At m a1 w1:=⟨m,hm⟩;simp only[μ,dif_pos hex];exact bc
 refine wpIn_loop I μ ⟨n,c6 _,s,ρ,hq,r,d,Ext.refl _ _ _⟩ ?_;intro a1 w1 hI;have hμe:At (μ a1 w1) a1 w1:=by
  have hI':∃m,At m a1 w1:=hI;simp only[μ,dif_pos hI'];exact bc
 obtain⟨hle,s1,ρ1,hq1,r1,d1,x1⟩:=hμe;generalize hm:μ a1 w1=m at *
 cases m with
 | zero=>cases hq1
 | succ m=>
  have ihm:=ih m ac;simp only[bK]at hq1;cases hr:bK ext (fP P) FT m c s1 with
  | none=>grind
  | some p=>
   obtain⟨e2,s2⟩:=p;rw[hr]at hq1;refine ihm.ok c s1 e2 s2 hr aY N rd code hcode ρ1 a1 w1 ro r1 d1 eu _ ?_;intro ρ2 a2 w2 r2 d2 x2;cases e2 with
   | normal=>
    simp only at hq1;have hat:At m a2 w2:=⟨ac,s2,ρ2,hq1,r2,d2,x1.trans x2⟩;exact⟨⟨m,hat⟩,by have:=hμ a2 w2 m hat;omega⟩
   | exit i=>cases hq1;exact hQ ρ2 a2 w2 r2 d2 (x1.trans x2)
   | ret=>cases hq1;exact hQ ρ2 a2 w2 r2 d2 (x1.trans x2)
end Go.Ab
namespace Go.Ab
variable {P:Program} {gl:Nat->Option AV} {ρ:aW} {w:World} {h:ab} {s:St} {a:Act} {ext:FuncId->List AV->ab->Option HR} {FT:FuncId->Option dm}
theorem SG {C:Cx}{ops:List Oper}{draw:Bool}{c:al}(h:vu C ops draw=some c):∃il,kE C ops ops=some il /\
 ((draw=false/\c = .region il)\/(draw=true/\∃bits,qm ops bits=true/\qo il bits=true/\c = .draw (il.zipIdx.map fun (o,i)=>(o,jZ (bits.getD i 0) i)))):=by
 unfold vu at h;grind
theorem SH {fn:FuncId}{tmps:Array Value}{ps:Array Tmp}{as bd:Code}:(Instr.enterLoop fn tmps ps as bd none).run P w =
 .ok (w.heap.size+1,[{ target:=.collected w.heap.size,args:=#[] }])
   { w with heap:=(w.heap.push (.deferred (some []))).push (.loop { state:=.ready,pending:=none,fn,tmps,params:=ps,assign:=as,body:=bd,defers:=w.heap.size }) }:=by
 simp[Instr.enterLoop];rfl
theorem SI {n:Nat}(ihn:mB P gl (bK ext (fP P) FT n))(hFT:nf P gl FT){aY:List Nat}{N:Nat}{g:Operand}{ps:Array Tmp}{as bd:Code}{fi:aZ}{dps:List fN}{ai bi:al}
 (hg:ij ⟨P,gl,aY,N⟩ g=some fi) (hps:mR ⟨P,gl,aY,N⟩ ps.toList=some dps) (has:gu ⟨P,gl,aY,N⟩ true as=some ai) (hbd:gu ⟨P,gl,aY,N⟩ true bd=some bi)
 {s s':au} {e:Ex} (hq:bK ext (fP P) FT (n+1) (.rangeFunc false fi dps ai bi) s=some (e,s')) (r:Rel ⟨P,gl,aY,N⟩ ρ s.s a w) (d:DF ρ s.s.cI a.defers) {Q:Exit->Act->World->Prop}
 (hQ:∀ρ' a' w',Rel ⟨P,gl,aY,N⟩ ρ' s'.s a' w'->DF ρ' s'.s.cI a'.defers->Ext s.s.hp s'.s.hp ρ ρ' w w'->Q (vP e) a' w'):(Code.rangeFunc g ps as bd).wpIn (FR none) 0 P Q a w:=by
 simp only[bK,b9,if_false]at hq;split at hq <;> try (cases hq;done)
 rename_i gf l1 l2 hgv;split at hq <;> try (cases hq;done)
 rename_i q hcall;split at hq <;> try (cases hq;done)
 rename_i st pend pe' ps' a' b' hb;split at hq <;> try (cases hq;done)
 rename_i hst;cases hq;have hgV:=r.ae hg hgv;generalize hge:a.eval g=gv at hgV;cases hgV with
 | @fn _ _ _ fi' ca' hf h1 h2 g1 g2=>
  refine wpIn_rangeFunc fun fnId _=>?_
  have x1:=Ext.alloc r.mem (some .ie) (.deferred (some [])) (.live w.heap.size 0) ax;have m1:=Mem.alloc r.mem (some .ie) (.deferred (some [])) (.live w.heap.size 0) ax (by
   intro o' ho;cases ho;exact⟨w.heap.size,aW.gQ _ _ _,ax⟩)
  generalize hρ1:ρ.fe s.s.hp.length (.live w.heap.size 0)=ρ1 at *
  generalize hw1:({ w with heap:=w.heap.push (.deferred (some [])) }:World)=v1 at *
  have hv1s:v1.heap.size=w.heap.size+1:=by rw[←hw1];simp
  let rec0:Loop:={ state:=.ready,pending:=none,fn:=fnId,tmps:=a.tmps,params:=ps,assign:=as,body:=bd,defers:=w.heap.size }
  have hl1:(s.s.hp++[some bV.ie]).length=s.s.hp.length+1:=by simp
  have x2:=Ext.alloc m1 (some (.loop .ready none s.s.pe dps ai bi)) (.loop rec0) (.live v1.heap.size 0) ax;have er1:ER ⟨P,gl,aY,N⟩ ρ1 v1 s.s.pe [] a.tmps:=⟨r.er.size,r.er.nodup,r.er.lt,r.er.lE,fun i v t hv ht=>(r.er.pe i v t hv ht).mono x1,ax⟩;have m2:=Mem.alloc m1 (some (.loop .ready none s.s.pe dps ai bi)) (.loop rec0) (.live v1.heap.size 0) ax (by
   intro o' ho;cases ho;exact⟨v1.heap.size,rec0,aY,N,aW.gQ _ _ _,ax,rfl,trivial,er1.mono x2,hps,has,hbd⟩)
  rw[hl1]at x2 m2;have happ:s.s.hp++[some bV.ie]++[some (.loop .ready none s.s.pe dps ai bi)]=s.s.hp++[some bV.ie,some (.loop .ready none s.s.pe dps ai bi)]:=by simp
  rw[happ]at x2 m2;generalize hρ2:ρ1.fe (s.s.hp.length+1) (.live v1.heap.size 0)=ρ2 at *
  generalize hw2:({ v1 with heap:=v1.heap.push (.loop rec0) }:World)=v2 at *
  have x12:=x1.trans x2;have hyield:V ρ2 v2 (.fn (.yield (s.s.hp.length+1)) [] []) (.func (.yield (w.heap.size+1)) #[] #[]):=by
   rw[←hv1s];exact .yield (d:=0) (by grind[aW.gQ])
  have hall:VL ρ2 v2 (l1++[.fn (.yield (s.s.hp.length+1)) [] []]++l2) (fi'++[.func (.yield (w.heap.size+1)) #[] #[]]++ca'):=by
   have e1:VL ρ2 v2 l1 fi':=VL.mono x12 ⟨h1,g1⟩;have e2:VL ρ2 v2 l2 ca':=VL.mono x12 ⟨h2,g2⟩;exact(e1.append (.cons hyield .nil)).append e2
  obtain⟨hcf,hcalls⟩:=vY ihn hFT hcall m2 hall;refine⟨w.heap.size+1,[{ target:=.collected w.heap.size,args:=#[] }],v2,{ target:=.fn (.func gf) ca'.toArray,args:=fi'.toArray ++ #[.func (.yield (w.heap.size+1)) #[] #[]] },v2,gf,
   (fi'++[Value.func (.yield (w.heap.size+1)) #[] #[]]++ca').toArray,v2,?_,?_,fun _ _=>trivial,?_,fun hd=>(by cases hd),?_⟩
  . rw[show (FR none).round=none from rfl,SH,←hw2,←hw1]
  . have e:resolve a.eval (rangeCall g (w.heap.size+1)) 0=Deferred.ofValue (a.eval g) #[.func (.yield (w.heap.size+1)) #[] #[]]:=by
     simp[resolve,Act.eval]
    rw[e,hge];rfl
  . simp only[invoke]<;>grind
  . refine CallsIn.mono (F:=Fence.wide) (n:=0) hcalls ?_;intro en w3 hen;cases en with
    | panicked _=>grind
    | outgrown=>grind
    | returned v=>
     obtain⟨ρ3,hv3,m3,x3⟩:=hen;obtain⟨h0',c,rr,pers',N',k1,k2,k3,k4,k5,k6,k7,k8⟩:=wc m3 hb;have hc:c=w.heap.size+1:=by
      have hl:ρ2 (s.s.hp.length+1) = .live (w.heap.size+1) 0:=by rw[←hρ2,←hv1s];exact ax
      rcases x3.live _ _ _ hl with hh|hh
      . grind
      . grind
     subst hc;obtain⟨m4,x4⟩:=Br (st':=.exhausted) (pend':=pend) m3 h0' k1 k2 { rr with state:=.exhausted } rfl k4 k5 k6 k7 k8;have xx:=(x12.trans x3).trans x4;refine⟨rr.pending,w3.dY (w.heap.size+1) (.loop { rr with state:=.exhausted }),?_,?_⟩
     . have hnb:(rr.state == LoopState.busy)=false:=by rw[k3];simpa using hst
       simp only[Instr.endLoop,dz,vZ k2,cT,hnb,b9,if_false,fY,ou k2 ax]
     . have hrel:Rel ⟨P,gl,aY,N⟩ ρ3 { s.s with hp:=q.h.put (s.s.hp.length+1) (some (.loop .exhausted pend pe' ps' a' b')),cI:=s.s.hp.length::s.s.cI } { a with defers:=[{ target:=.collected w.heap.size,args:=#[] }]++a.defers } (w3.dY (w.heap.size+1) (.loop { rr with state:=.exhausted })):=
        ⟨(r.er.mono xx:ER ⟨P,gl,aY,N⟩ ρ3 _ s.s.pe s.s.lo a.tmps),m4⟩
       have hdf:DF ρ3 (s.s.hp.length::s.s.cI) ([{ target:=.collected w.heap.size,args:=#[] }]++a.defers):=by
        have hl:ρ1 s.s.hp.length = .live w.heap.size 0:=by rw[←hρ1];exact ax
        have d1:DF ρ1 (s.s.hp.length::s.s.cI) ([{ target:=.collected w.heap.size,args:=#[] }]++a.defers):=by
         have d0:=d.mono x1;refine⟨by simp[d0.1],fun i b dd hi hi'=>?_⟩;cases i with
         | zero=>grind
         | succ i=>exact d0.2 i b dd bc bc
        exact((d1.mono x2).mono x3).mono x4
       have hfin:=hQ ρ3 _ _ hrel hdf xx;have key:∀(W:World) (a':Act) (jp:Option Code),oe pend jp->Q (vP (pend.getD .normal)) a' W->(match jp with|none=>Q .normal a' W|some c=>c.wpIn (FR none) 0 P Q a' W):=by
        intro W a' jp k4 hfin;cases pend with
        | none=>
         cases jp with
         | none=>exact hfin
         | some _=>exact k4.elim
        | some e1=>
         cases e1 with
         | normal=>cases jp <;> exact k4.elim
         | exit i=>
          cases jp with
          | none=>exact k4.elim
          | some cc=>
           cases cc <;> simp only[oe]at k4;subst k4;exact wpIn_exit hfin
         | ret=>
          cases jp with
          | none=>exact k4.elim
          | some cc=>
           cases cc <;> simp only[oe]at k4;exact wpIn_ret hfin
       grind
theorem Bt (hmix:P.follows .mixedOrders=true)(hext:cW P gl ext)(hFT:nf P gl FT):∀n,mB P gl (bK ext (fP P) FT n):=by
 intro n;induction n using jV with
 | _ n ih=>
  refine⟨SD hext hFT n ih,?_⟩;cases n with
  | zero=>intro c s e s' hq;cases hq
  | succ n=>
   have ihn:=ih n ac;have hcall:=Bs ihn hext hFT;intro c s e s' hq aY N rd code hcode ρ a w ro r d eu Q hQ;cases code <;> simp only[gu]at hcode
   case skip=>
    cases hcode;simp only[bK,ce.injEq,jg.injEq]at hq;obtain⟨rfl,rfl⟩:=hq;exact wpIn_skip (hQ ρ a w r d (Ext.refl _ _ _))
   case label l=>
    cases hcode;simp only[bK,ce.injEq,jg.injEq]at hq;obtain⟨rfl,rfl⟩:=hq;exact wpIn_label (hQ ρ a w r d (Ext.refl _ _ _))
   case exit id=>
    cases hcode;simp only[bK,ce.injEq,jg.injEq]at hq;obtain⟨rfl,rfl⟩:=hq;exact wpIn_exit (hQ ρ a w r d (Ext.refl _ _ _))
   case ret=>
    cases hcode;simp only[bK,ce.injEq,jg.injEq]at hq;obtain⟨rfl,rfl⟩:=hq;exact wpIn_ret (hQ ρ a w r d (Ext.refl _ _ _))
   case region id ops draw=>
    simp only[ce.injEq]at hcode;cases hc:vu ⟨P,gl,aY,N⟩ ops.toList draw with
    | none=>rw[hc]at hcode;simp at hcode;subst hcode;simp[bK]at hq
    | some c'=>
     rw[hc]at hcode;simp at hcode;subst hcode;obtain⟨il,hil,hor⟩:=SG hc;rcases hor with ⟨rfl,rfl⟩|⟨rfl,bits,hb1,hb2,rfl⟩
     . simp only[bK]at hq;split at hq
       . rename_i s1 hr;cases hq;have hdfs:=Bn _ _ _ hr;refine Sd hcall hil r hr ?_;intro ρ' a' w' r' x' hd';refine hQ ρ' a' w' r' ?_ x';rw[hdfs,hd'];exact d.mono x'
       grind
     . simp only[bK]at hq;split at hq
       . rename_i s1 hr;cases hq;refine Sr hcall hmix hcall.wr hil hb1 hb2 r hr ?_;intro ρ' a' w' r' x' hd' hdfs;refine hQ ρ' a' w' r' ?_ x';rw[hdfs,hd'];exact d.mono x'
       grind
   case seq x y=>
    split at hcode
    . rename_i cx cy hx hy;cases hcode;simp only[bK]at hq;refine wpIn_seq ?_;cases hr:bK ext (fP P) FT n cx s with
      | none=>grind
      | some p=>
       obtain⟨e1,s1⟩:=p;rw[hr]at hq;refine ihn.ok cx s e1 s1 hr aY N rd x hx ρ a w ro r d eu _ ?_;intro ρ1 a1 w1 r1 d1 x1;cases e1 with
       | normal=>exact ihn.ok cy s1 e s' hq aY N rd y hy ρ1 a1 w1 ro r1 d1 eu Q fun ρ2 a2 w2 r2 d2 x2=>hQ ρ2 a2 w2 r2 d2 (x1.trans x2)
       | exit i=>cases hq;exact hQ ρ1 a1 w1 r1 d1 x1
       | ret=>cases hq;exact hQ ρ1 a1 w1 r1 d1 x1
    grind
   case cond t x y=>
    split at hcode
    . rename_i ct cx cy ht hx hy;cases hcode;simp only[bK]at hq;split at hq
      . rename_i b hb;have e1:=(r.ae ht hb).mU;refine wpIn_cond e1 ?_;cases b with
        | true=>exact ihn.ok cx s e s' hq aY N rd x hx ρ a w ro r d eu Q hQ
        | false=>exact ihn.ok cy s e s' hq aY N rd y hy ρ a w ro r d eu Q hQ
      grind
    grind
   case block id x=>
    simp only[bZ]at hcode;obtain⟨cx,hx,rfl⟩:=hcode;simp only[bK]at hq;refine wpIn_block ?_;cases hr:bK ext (fP P) FT n cx s with
    | none=>grind
    | some p=>
     obtain⟨e1,s1⟩:=p;rw[hr]at hq;refine ihn.ok cx s e1 s1 hr aY N rd x hx ρ a w ro r d eu _ ?_;intro ρ1 a1 w1 r1 d1 x1;cases e1 with
     | normal=>cases hq;exact hQ ρ1 a1 w1 r1 d1 x1
     | exit i=>
      simp only at hq;show (if i=id then Q .normal a1 w1 else Q (.exit i) a1 w1);split at hq
      . rename_i hi;cases hq;rw[if_pos hi];exact hQ ρ1 a1 w1 r1 d1 x1
      . rename_i hi;cases hq;rw[if_neg hi];exact hQ ρ1 a1 w1 r1 d1 x1
     | ret=>cases hq;exact hQ ρ1 a1 w1 r1 d1 x1
   case loop x=>
    grind[bZ,SF]
   case scope x=>
    simp only[bZ]at hcode;obtain⟨cx,hx,rfl⟩:=hcode;refine Su ?_;simp only[bK]at hq;cases hr:bK ext (fP P) FT n cx s with
    | none=>grind
    | some p=>
     obtain⟨e1,s1⟩:=p;rw[hr]at hq;refine ihn.ok cx s e1 s1 hr aY N rd x hx ρ a w ro r d eu _ ?_;intro ρ1 a1 w1 r1 d1 x1;cases e1 with
     | normal=>
      simp only at hq;cases n with
      | zero=>cases hq
      | succ n=>
       simp only[bK,ce.injEq,jg.injEq]at hq;obtain⟨rfl,rfl⟩:=hq;exact hQ ρ1 a1 w1 r1 d1 x1
     | exit i=>cases hq;exact hQ ρ1 a1 w1 r1 d1 x1
     | ret=>cases hq;exact hQ ρ1 a1 w1 r1 d1 x1
   case rangeFunc g ps as bd=>
    split at hcode
    . rename_i fi dps ai bi h1 h2 h3 h4;cases hcode;cases rd with
      | true=>simp[bK]at hq
      | false=>
       rw[eu rfl];grind[SI]
    grind
   all_goals
    cases hcode;simp[bK]at hq
end Go.Ab
namespace Go.Ab
variable {P:Program} {gl:Nat->Option AV} {ρ:aW} {w:World} {h:ab}
def sN:AV->AV->Bool
 | .int k a,.int k' b=>decide (k=k') && a == b
 | .str a,.str b=>a == b
 | .bool a,.bool b=>a == b
 | .fx,.fx | .ah,.ah | .ee,.ee | .fk,.fk | .eH,.eH=>true
 | .fn (.func f) [] [],.fn (.func g) [] []=>f == g
 | _,_=>false
def wh:List AV->List AV->Bool
 | [],[]=>true
 | a::l,b::m=>sN a b && wh l m
 | _,_=>false
theorem SJ {a b:AV}(h:sN a b=true):a=b:=by
 unfold sN at h;grind
theorem HZ:∀{a b:List AV},wh a b=true->a=b
 | [],[],_=>rfl
 | _::_,_::_,h=>by
  simp only[wh,br]at h;rw[SJ h.1,HZ h.2]
 | [],_::_,h=>by cases h
 | _::_,[],h=>by cases h
theorem kc.mono {nx:Next}{w1:World}{R R':Value->World->Prop}(h:kc P nx w1 R)(hr:∀v w',R v w'->R' v w'):kc P nx w1 R':=by
 cases nx <;> simp only[kc]at h ⊢
 case value v=>grind
 case enter f args=>
  grind[CallsIn.mono]
 grind[RoundIn.mono]
theorem Mem.bare (hgl:∀g v,gl g=some v->v.top=0)(m:Mem P gl ρ h w):Mem P gl (fm 0 ρ) [] w:=by
 refine⟨ax,fun b _=>rfl,?_,?_,?_,?_,fun g v hg=>?_⟩
 . intro b b' c d d' h1;simp[fm]at h1
 . intro b c d h1;simp[fm]at h1
 . rintro c (hc|⟨b,d,_,hb⟩)
   . exact m.xb c hc
   . exact m.bound b c d hb
 . intro b c d h1;simp[fm]at h1
 . exact(m.gl g v hg).ik (n:=0) ax (fun c hc=>hc.fm 0) bc
theorem VL.bare {l:List AV}{m:List Value}(hl:bO l=0)(h:VL ρ w l m):VL (fm 0 ρ) w l m:=
 ⟨h.1,fun i x y hx hy=>(h.2 i x y hx hy).ik (n:=0) ax (fun c hc=>hc.fm 0) (fR ac i x hx)⟩
end Go.Ab
namespace Go.Ab
variable {P:Program} {gl:Nat->Option AV} {ρ:aW} {w:World} {h:ab}
inductive XK where
 | qF|qG|index|count|same
 deriving DecidableEq
def SK:Array Value->Sem Value:=fun args=>do
 let (x, y, b) ←Extern.MathBitsCarry.three "Sub64" args
 pure (Extern.MathBitsCarry.pair ((x+Extern.MathBitsCarry.m64-y-b)%Extern.MathBitsCarry.m64) (if x<y+b then 1 else 0))
def XK.entry:XK->Array Value->Sem Value
 | .qF=>add64Entry
 | .qG=>SK
 | .index=>Extern.BytealgIndexByte.indexByte
 | .count=>Extern.BytealgCount.count
 | .same=>Extern.AbiNoEscape.same
def XK.run:XK->List AV->Option AV
 | .qF,[.int .u64 x,.int .u64 y,.int .u64 c]=>if 0<=x/\0<=y/\0<=c/\c<=1 then some (.aw [.int .u64 ((x+y+c)%18446744073709551616),.int .u64 ((x+y+c)/18446744073709551616)]) else none
 | .qG,[.int .u64 x,.int .u64 y,.int .u64 c]=>if 0<=x/\0<=y/\0<=c/\c<=1 then some (.aw [.int .u64 ((x.toNat+18446744073709551616-y.toNat-c.toNat)%18446744073709551616:Nat),.int .u64 (if x.toNat<y.toNat+c.toNat then 1 else 0:Nat)]) else none
 | .index,[.str s,.int .u8 c]=>some (.int .i64 (firstIdx ⟨s.toArray⟩ c.toNat.toUInt8))
 | .count,[.str s,.int .u8 c]=>some (.int .i64 ((ByteArray.mk s.toArray).foldl (fun n x=>if x == c.toNat.toUInt8 then n+1 else n) ((0:Nat):Int)))
 | .same,[x]=>some x
 | _,_=>none
structure oF (P:Program)(f:Nat)(k:XK):Prop where
 fn : ∃fn, P.funcs[f]? = some fn /\ (fn.name == "runtime.NumGoroutine") = false /\ fn.body.isNone = true /\ Extern.findNext fn = none /\ Extern.find fn = some k.entry
def oG:List (Nat×XK)->FuncId->List AV->ab->Option HR
 | [],_,_,_=>none
 | (g,k)::L,f,all,h=>if d9 g f then (match k.run all with|some v=>some ⟨v,h,[]⟩|none=>none) else oG L f all h
theorem SL {x y c:Int}(hc0:0<=c)(hc:c<=1)(n:String)(k:Nat×Nat×Nat->Sem Value) :
 ((Extern.MathBitsCarry.three n #[.int .u64 x,.int .u64 y,.int .u64 c]) >>= k).run P w=(k (x.toNat,y.toNat,c.toNat)).run P w:=by
 obtain⟨c',rfl⟩:=Int.eq_ofNat_of_zero_le hc0;have:c'=0\/c'=1:=by omega
 rcases this with rfl|rfl <;> rfl
theorem XK.sO (k:XK){all:List AV}{as':List Value}(hv:VL ρ w all as'){v:AV}(hq:k.run all=some v):∃v',(k.entry as'.toArray).run P w = .ok v' w/\V ρ w v v':=by
 unfold XK.run at hq;split at hq <;> try (cases hq;done)
 . rename_i x y c;split at hq <;> try (cases hq;done)
   rename_i hc;cases hq;obtain⟨a1,m1,rfl,e1,hv⟩:=hv.cons_inv;obtain⟨a2,m2,rfl,e2,hv⟩:=hv.cons_inv;obtain⟨a3,m3,rfl,e3,hv⟩:=hv.cons_inv;obtain rfl:=hv.kG;cases e1;cases e2;cases e3;exact⟨_,run_add64 x y c hc.1 hc.2.1 hc.2.2.1 hc.2.2.2 w,V.jm (.cons (.int _ _) (.cons (.int _ _) .nil))⟩
 . rename_i x y c;split at hq <;> try (cases hq;done)
   rename_i hc;cases hq;obtain⟨a1,m1,rfl,e1,hv⟩:=hv.cons_inv;obtain⟨a2,m2,rfl,e2,hv⟩:=hv.cons_inv;obtain⟨a3,m3,rfl,e3,hv⟩:=hv.cons_inv;obtain rfl:=hv.kG;cases e1;cases e2;cases e3;exact⟨_, SL hc.2.2.1 hc.2.2.2 "Sub64" _, V.jm (.cons (.int _ _) (.cons (.int _ _) .nil))⟩
 . rename_i s c;cases hq;obtain⟨a1,m1,rfl,e1,hv⟩:=hv.cons_inv;obtain⟨a2,m2,rfl,e2,hv⟩:=hv.cons_inv;obtain rfl:=hv.kG;cases e1;cases e2;exact⟨_,run_indexByte_string ⟨s.toArray⟩ c w,.int _ _⟩
 . rename_i s c;cases hq;obtain⟨a1,m1,rfl,e1,hv⟩:=hv.cons_inv;obtain⟨a2,m2,rfl,e2,hv⟩:=hv.cons_inv;obtain rfl:=hv.kG;cases e1;cases e2;exact⟨_,rfl,.int _ _⟩
 . rename_i x;cases hq;obtain⟨a1,m1,rfl,e1,hv⟩:=hv.cons_inv;obtain rfl:=hv.kG;exact⟨a1,rfl,e1⟩
theorem Bu:∀{L:List (Nat×XK)},(∀p∈L,oF P p.1 p.2)->cW P gl (oG L)
 | [],_=>fun f all h r hq=>by cases hq
 | (g,k)::L,hL=>fun f all h r hq=>by
  simp only[oG]at hq;split at hq
  . rename_i hg;have hg':=g9 hg;subst hg';split at hq
    . rename_i v hv;cases hq;refine⟨qC _,fun ρ w as' m hl=>?_⟩;obtain⟨fn,h1,h2,h3,h4,h5⟩:=(hL (g,k) ax).fn;obtain⟨v',h6,h7⟩:=XK.sO (P:=P) k hl hv;refine⟨.value v',w,?_,jd m h7⟩;rw[run_callFunc_extern h1 h2 h3 h4 h5,h6];rfl
    grind
  . exact Bu bc f all h r hq
end Go.Ab
namespace Go.Ab
variable {P:Program} {gl:Nat->Option AV} {ρ:aW} {w:World} {h:ab}
def wi:Option Nat->Option Nat->Bool
 | none,none=>true
 | some a,some b=>d9 a b
 | _,_=>false
theorem Ia {a b:Option Nat}(h:wi a b=true):a=b:=by
 unfold wi at h;split at h<;>simp_all
mutual
def oH:AV->AV->Bool
 | .dO,.dO=>true
 | .int k a,.int k' b=>decide (k=k') && a == b
 | .str a,.str b=>a == b
 | .bool a,.bool b=>a == b
 | .fx,.fx | .ah,.ah | .ee,.ee | .fk,.fk | .eH,.eH=>true
 | .ptr b o,.ptr b' o'=>d9 b b' && d9 o o'
 | .vp l,.vp m=>kK l m
 | .sl b o n e c,.sl b' o' n' e' c'=>d9 b b' && d9 o o' && d9 n n' && d9 e e' && wi c c'
 | .vs l n c,.vs l' n' c'=>kK l l' && d9 n n' && wi c c'
 | .map b,.map b'=>d9 b b'
 | .fn (.func f) x y,.fn (.func g) x' y'=>d9 f g && kK x x' && kK y y'
 | .iface t v,.iface t' v'=>d9 t t' && oH v v'
 | .agg l,.agg m=>kK l m
 | .aw l,.aw m=>kK l m
 | _,_=>false
def kK:List AV->List AV->Bool
 | [],[]=>true
 | a::l,b::m=>oH a b && kK l m
 | _,_=>false
end
mutual
theorem sP:∀(a b:AV),oH a b=true->a=b:=by
 intro a b h;unfold oH at h;split at h <;> first|rfl|(simp at h;done)|skip
 . grind
 . grind
 . grind
 . simp_all
 . rw[mC _ _ h]
 . simp only[br,jj]at h;grind[Ia]
 . simp only[br,jj]at h;rw[mC _ _ h.1.1,h.1.2,Ia h.2]
 . simp_all
 . simp only[br,jj]at h;rw[h.1.1,mC _ _ h.1.2,mC _ _ h.2]
 . simp only[br,jj]at h;rw[h.1,sP _ _ h.2]
 . rw[mC _ _ h]
 . rw[mC _ _ h]
theorem mC:∀(a b:List AV),kK a b=true->a=b:=by
 intro a b h;cases a <;> cases b <;> simp only[kK,br]at h <;> first|rfl|(simp at h;done)|skip
 rw[sP _ _ h.1,mC _ _ h.2]
end
def wj:List (AV×AV)->List (AV×AV)->Bool
 | [],[]=>true
 | (a,b)::l,(c,d)::m=>oH a c && oH b d && wj l m
 | _,_=>false
theorem Ib:∀{a b:List (AV×AV)},wj a b=true->a=b
 | [],[],_=>rfl
 | (a,b)::l,(c,d)::m,h=>by
  simp only[wj,br]at h;rw[sP _ _ h.1.1,sP _ _ h.1.2,Ib h.2]
 | [],_::_,h=>by cases h
 | _::_,[],h=>by cases h
def wk:bV->bV->Bool
 | .cells l e,.cells m f=>d9 e f && kK l m
 | .map l,.map m=>wj l m
 | .iter s p,.iter t q=>s == t && d9 p q
 | .ie,.ie=>true
 | _,_=>false
theorem Ic {a b:bV}(h:wk a b=true):a=b:=by
 unfold wk at h;split at h
 . simp only[br,jj]at h;grind[mC]
 . rw[Ib h]
 . simp_all
 . rfl
 . cases h
def qH:ab->ab->Bool
 | [],[]=>true
 | none::l,none::m=>qH l m
 | some a::l,some b::m=>wk a b && qH l m
 | _,_=>false
theorem Bv:∀{a b:ab},qH a b=true->a=b
 | [],[],_=>rfl
 | none::l,none::m,h=>by simp only[qH]at h;rw[Bv h]
 | some a::l,some b::m,h=>by
  simp only[qH,br]at h;rw[Ic h.1,Bv h.2]
 | [],_::_,h=>by cases h
 | _::_,[],h=>by rename_i o _;cases o <;> cases h
 | none::_,some _::_,h=>by cases h
 | some _::_,none::_,h=>by cases h
def nj:ab->ab->Bool
 | [],[]=>true
 | none::l,_::m=>nj l m
 | some a::l,some b::m=>wk a b && nj l m
 | _,_=>false
theorem Bw:∀{a b:ab},nj a b=true->a.length=b.length/\∀(i:Nat) x,a[i]? = some (some x)->b[i]? = some (some x)
 | [],[],_=>⟨rfl,ax⟩
 | none::l,o::m,h=>by
  simp only[nj]at h;obtain⟨h1,h2⟩:=Bw h;refine⟨by simp[h1],fun i x hx=>?_⟩;cases i with
  | zero=>simp at hx
  | succ i=>exact h2 i x (by simpa using hx)
 | some a::l,some b::m,h=>by
  simp only[nj,br]at h;obtain⟨h1,h2⟩:=Bw h.2;refine⟨by simp[h1],fun i x hx=>?_⟩;cases i with
  | zero=>simp at hx ⊢;rw[←Ic h.1,hx]
  | succ i=>exact h2 i x (by simpa using hx)
 | [],_::_,h=>by cases h
 | o::_,[],h=>by cases o <;> cases h
 | some _::_,none::_,h=>by cases h
structure bL where
 f:Nat
 as:List AV
 h:ab
 r:HR
def wm (r:HR):Option HR->Bool
 | some q=>oH q.v r.v && qH q.h r.h && q.wr == r.wr
 | none=>false
theorem SM {r:HR}{q:Option HR}(h:wm r q=true):q=some r:=by
 unfold wm at h;split at h
 . rename_i q;simp only[br,beq_iff_eq]at h;obtain⟨v,hh,wr⟩:=q;obtain⟨v',hh',wr'⟩:=r;grind[sP,Bv]
 . cases h
def oI (f:Nat)(all:List AV)(h:ab):List bL->Option HR
 | []=>none
 | e::T=>if d9 e.f f then (if kK e.as all then (if nj e.h h then some ⟨e.r.v,gg e.r.wr h e.r.h 0,e.r.wr⟩ else oI f all h T) else oI f all h T) else oI f all h T
def wq (T:List bL)(ext:FuncId->List AV->ab->Option HR):FuncId->List AV->ab->Option HR:=fun f all h=>
 match oI f all h T with
 | some r=>some r
 | none=>ext f all h
def bG (P:Program)(gl:Nat->Option AV)(e:bL):Prop:=
 gk e.h e.r/\∀ρ w (as':List Value),Mem P gl ρ e.h w->VL ρ w e.as as'->∃nx w1,(callFunc e.f as'.toArray).run P w = .ok nx w1/\kc P nx w1 fun v w'=>fE P gl ρ e.h w e.r v w'
theorem Ie {f:Nat}{all:List AV}{h:ab}:∀{T:List bL} {r:HR},oI f all h T=some r->∃e∈T,e.f=f/\e.as=all/\nj e.h h=true/\r=⟨e.r.v,gg e.r.wr h e.r.h 0,e.r.wr⟩
 | [],r,h=>by cases h
 | e::T,r,hq=>by
  have rest:oI f all h T=some r->∃e'∈e::T,e'.f=f/\e'.as=all/\nj e'.h h=true/\r=⟨e'.r.v,gg e'.r.wr h e'.r.h 0,e'.r.wr⟩:=fun hr=>by
   obtain⟨e',h1,h2⟩:=Ie hr;exact⟨e',List.mem_cons_of_mem _ h1,h2⟩
  simp only[oI]at hq;split at hq
  . rename_i hf;split at hq
    . rename_i ha;split at hq
      . rename_i hs;cases hq;exact⟨e,List.mem_cons_self,g9 hf,mC _ _ ha,hs,rfl⟩
      . exact rest hq
    . exact rest hq
  . exact rest hq
theorem SN {h0:ab}{r:HR}(hs:h0.length=h.length/\∀(i:Nat) x,h0[i]? = some (some x)->h[i]? = some (some x))(hwr:gk h0 r)(m:Mem P gl ρ h w){v':Value}{w':World}(hd:fE P gl ρ h0 w r v' w') :
 fE P gl ρ h w ⟨r.v,gg r.wr h r.h 0,r.wr⟩ v' w':=by
 obtain⟨ρ',hv,m',x⟩:=hd;obtain⟨hl,hk⟩:=hs;have hle:h.length<=r.h.length:=by have:=hwr.1;omega
 have get:=fun b=>kJ r.wr h r.h 0 b hle
 have hml:=sI r.wr h r.h 0 hle;have h0none:∀b,b<h.length->h[b]? = some none->h0[b]? = some none:=by
  intro b hb hn;cases hz:h0[b]? with
  | none=>grind
  | some z=>cases z<;>grind
 have E:Ext h (gg r.wr h r.h 0) ρ ρ' w w':=by
  refine⟨x.os,x.tape,x.output,x.size,ac,x.X,?_,?_,x.live,x.dead,x.nil,?_,?_,x.shape⟩
  . intro b hb;have hlt:=(be.1 hb).1;rw[get b,if_pos hlt];split
    . exact x.dO b bc
    omega
  . intro b hb;exact x.same b (h0none b (be.1 hb).1 hb)
  . intro c hc hu;refine x.di c hc fun b d hb=>?_<;>grind
  . intro b c d hb hc;rcases x.back b c d hb hc with h1|⟨b0,d0,h1,h2⟩<;>grind
 refine⟨ρ',hv,⟨?_,?_,m'.inj,m'.bound,m'.xb,m'.xo,m'.gl⟩,E⟩
 . intro b o hb;rw[get b]at hb;split at hb
   . rename_i hlt;split at hb
     . exact m'.dP b o hb
     . rename_i hno;simp only[j7,List.contains_eq_mem,decide_eq_true_eq]at hno;cases hz:h0[b]? with
       | none=>grind
       | some z=>
        cases z with
        | some o'=>
         have:=hk b o' hz;rw[hb]at this;cases this;exact m'.dP b o (by rw[hwr.2 b ac hno,hz])
        | none=>
         refine(m.dP b o hb).mono E (x.same b hz) fun c d hl'=>?_
         refine x.di c (m.bound b c d hl') fun b' d' hb'=>?_
         have:=m.inj _ _ _ _ _ hl' hb'<;>grind
   . exact m'.dP b o hb
 . intro b hb;rw[hml]at hb;exact m'.fresh b hb
theorem Ig {T:List bL}(hT:∀e∈T,bG P gl e){ext:FuncId->List AV->ab->Option HR}(hext:cW P gl ext):cW P gl (wq T ext):=by
 intro f all h r hq;unfold wq at hq;split at hq
 . rename_i q hv;cases hq;obtain⟨e,he,rfl,rfl,hs,rfl⟩:=Ie hv;obtain⟨hwr,cw⟩:=hT e he;have hsp:=Bw hs;have hle:h.length<=e.r.h.length:=by have:=hwr.1;omega
   refine⟨⟨by grind[sI],fun b hb hn=>?_⟩,fun ρ w as' m hl=>?_⟩
   . show (gg e.r.wr h e.r.h 0)[b]? = _;rw[kJ _ _ _ _ _ hle,if_pos hb];grind
   . have m0:Mem P gl ρ e.h w:=⟨fun b o hb=>m.dP b o (hsp.2 b o hb),fun b hb=>m.fresh b ac,m.inj,m.bound,m.xb,m.xo,m.gl⟩;obtain⟨nx,w1,h1,h2⟩:=cw ρ w as' m0 hl;exact⟨nx,w1,h1,h2.mono (by grind[SN])⟩
 . exact hext f all h r hq
theorem SO {call:fc}(hcall:nd P gl call){f:Nat}{as:List AV}{h:ab}{r:HR}(hq:wm r (call (.fn (.func f) [] []) as h)=true):bG P gl ⟨f,as,h,r⟩:=by
 have hq':=SM hq;refine⟨hcall.wr _ _ _ _ hq',fun ρ w as' m hl=>?_⟩;obtain⟨nx,w1,h1,h2⟩:=hcall.ok _ _ _ _ hq' ρ w (.func (.func f) #[] #[]) as' m (.fn (fi':=[]) (ca':=[]) ax rfl rfl ax ax) hl;exact HD f _ _ ⟨nx,w1,h1,h2⟩
end Go.Ab
namespace Go.Ab
variable {ext:FuncId->List AV->ab->Option HR} {inv:fy} {FT:FuncId->Option dm}
def qI (c c':fc):Prop:=∀g as h r,c g as h=some r->c' g as h=some r
def wu (r r':al->au->Option (Ex×au)):Prop:=∀c s x,r c s=some x->r' c s=some x
theorem wv {c c':fc}(hc:qI c c'){s:St}{io:bI}{q:HR}(h:cz c inv s io=some q):cz c' inv s io=some q:=by
 cases io <;> first|exact h|skip
 case call f as=>
  simp only[cz]at h ⊢;split at h
  . exact hc _ _ _ _ h
  . cases h
 case invoke f name as=>
  simp only[cz]at h ⊢;split at h
  . split at h
    . exact hc _ _ _ _ h
    . cases h
  . cases h
theorem mD {c c':fc}(hc:qI c c'):∀(l:List bz) (s s':au),fH c inv l s=some s'->fH c' inv l s=some s'
 | [],s,s',h=>h
 | o::l,s,s',h=>by
  simp only[fH]at h ⊢;split at h
  . split at h
    . rename_i q hq;simp only[wv hc hq];exact mD hc l _ s' h
    . cases h
  . exact mD hc l _ s' h
  . cases h
theorem kL {c c':fc}(hc:qI c c'):∀(l:List (bz×List Nat)) (s s':au) (ds:List cJ),eK c inv l s ds=some s'->eK c' inv l s ds=some s'
 | [],s,s',ds,h=>h
 | (o,un)::l,s,s',ds,h=>by
  simp only[eK]at h ⊢;split at h
  . split at h
    . rename_i hh;cases ht:mr s.s o.op with
      | none=>
       simp only[ht]at h ⊢;simp only[if_true]at h ⊢;split at h
       . rename_i q hq;simp only[wv hc hq];split at h
         . rename_i hk;rw[if_pos hh];simp only[hk,if_true];exact kL hc l _ s' _ h
         . cases h
       . cases h
      | some T=>
       simp only[ht]at h ⊢;split at h
       . rename_i hd;rw[if_pos hd];split at h
         . rename_i q hq;simp only[wv hc hq];split at h
           . rename_i hk;rw[if_pos hh];simp only[hk,if_true];exact kL hc l _ s' _ h
           . cases h
         . cases h
       . cases h
    . rename_i hh;rw[if_neg hh];split at h
      . exact kL hc l _ s' _ h
      . cases h
  . exact kL hc l _ s' _ h
  . cases h
theorem wx {r r':al->au->Option (Ex×au)}(hr:wu r r'){f:FuncId}{all:List AV}{h:ab}{q:HR}(hq:iF r FT f all h=some q):iF r' FT f all h=some q:=by
 unfold iF at hq ⊢;split at hq <;> try (cases hq;done)
 rename_i fi hfi;split at hq <;> try (cases hq;done)
 rename_i hn;rw[if_neg hn];split at hq <;> try (cases hq;done)
 rename_i e s hrun;rw[hr _ _ _ hrun];exact hq
theorem Ih {r r':al->au->Option (Ex×au)}(hr:wu r r'):qI (iM r ext FT) (iM r' ext FT):=by
 intro g as h q hq;cases g <;> try (cases hq;done)
 rename_i f fi ca;cases f <;> try (cases hq;done)
 . simp only[iM]at hq ⊢;grind[wx]
 . cases fi <;> cases ca <;> try (cases hq;done)
   rename_i b;change nh r b as h=some q at hq
   change nh r' b as h=some q
   unfold nh at hq ⊢;split at hq <;> try (cases hq;done)
   split at hq <;> try (cases hq;done)
   split at hq <;> try (cases hq;done)
   rename_i h3;simp only[hr _ _ _ h3];split at hq <;> try (cases hq;done)
   rename_i h4;split at hq <;> try (cases hq;done)
   rename_i h5;simp only[hr _ _ _ h5];exact hq
theorem SP:∀n,wu (bK ext inv FT n) (bK ext inv FT (n+1)):=by
 intro n;induction n with
 | zero=>intro c s x h;cases h
 | succ n ih=>
  intro c s x h;have hc:qI (iM (bK ext inv FT n) ext FT) (iM (bK ext inv FT (n+1)) ext FT):=Ih ih;cases c <;> first|exact h|skip
  case region ops=>
   rw[bK]at h ⊢;grind[mD]
  case draw ops=>
   rw[bK]at h ⊢;grind[kL]
  case seq a b=>
   rw[bK]at h ⊢;cases hr:bK ext inv FT n a s with
   | none=>grind
   | some p=>
    rw[ih _ _ _ hr];rw[hr]at h;obtain⟨e,s1⟩:=p;cases e with
    | normal=>exact ih _ _ _ h
    | exit _=>exact h
    | ret=>exact h
  case cond t a b=>
   rw[bK]at h ⊢;split at h
   . exact ih _ _ _ h
   . cases h
  case block id a=>
   rw[bK]at h ⊢;cases hr:bK ext inv FT n a s with
   | none=>grind
   | some p=>
    rw[ih _ _ _ hr];grind
  case loop a=>
   rw[bK]at h ⊢;cases hr:bK ext inv FT n a s with
   | none=>grind
   | some p=>
    rw[ih _ _ _ hr];rw[hr]at h;obtain⟨e,s1⟩:=p;cases e with
    | normal=>exact ih _ _ _ h
    | exit _=>exact h
    | ret=>exact h
  case rangeFunc inner f ps a b=>
   rw[bK]at h ⊢;split at h
   . cases h
   . rename_i hi;rw[if_neg hi];grind[wx]
theorem wy {n m:Nat}(h:n<=m):wu (bK ext inv FT n) (bK ext inv FT m):=by
 induction h with
 | refl=>exact fun _ _ _ h=>h
 | step _ ih=>exact fun c s x hx=>SP _ c s x (ih c s x hx)
end Go.Ab
namespace Go.Ab
variable {P:Program} {gl:Nat->Option AV} {w:World} {ext:FuncId->List AV->ab->Option HR} {FT:FuncId->Option dm}
def bare:aW:=⟨fun _=>.fresh,fun _=>False⟩
theorem SR (hgl:∀g v,gl g=some v->V bare w v (.pointer (some ⟨g,0,none⟩))):Mem P gl bare [] w:=
 ⟨ax,fun _ _=>rfl,fun b b' c d d' h=>(by cases h),fun b c d h=>(by cases h),fun c h=>False.elim h,fun b c d h=>(by cases h),hgl⟩
theorem Ii (hmix:P.follows .mixedOrders=true)(hext:cW P gl ext)(hFT:nf P gl FT){n:Nat}{f:FuncId}{as:List AV}{q:HR}(hq:iF (bK ext (fP P) FT n) FT f as []=some q)
 (hgl:∀g v,gl g=some v->V bare w v (.pointer (some ⟨g,0,none⟩))) {as':List Value} (hv:VL bare w as as') :
 Calls P f as'.toArray w fun e w'=>∃v',e = .returned v'/\(∃ρ',V ρ' w' q.v v')/\w'.os=w.os/\w'.tape=w.tape/\w'.output=w.output/\w.heap.size<=w'.heap.size/\∀c,c<w.heap.size->w'.heap[c]? = w.heap[c]? := by
 obtain⟨_,h2⟩:=vY (by grind[Bt]) hFT hq (SR hgl) hv;have h3:=callsIn_wide.1 h2;refine h3.mono fun e w' he=>?_
 cases e with
 | returned v=>
  obtain⟨ρ',hv',m',x⟩:=he;exact⟨v,rfl,⟨ρ',hv'⟩,x.os,x.tape,x.output,x.size,fun c hc=>x.di c hc fun b d hb=>by cases hb⟩
 | panicked _=>grind
 | outgrown=>grind
end Go.Ab
namespace Go.Ab
open Go.ChangeShapes Go.WideShapes Go.RowKit
variable {H:Type} {enc:TypeId×Value->H} {P:Program}
theorem Ij {W W':World}(h:W'.os=W.os/\W'.tape=W.tape/\W'.output=W.output/\W.heap.size<=W'.heap.size/\∀c,c<W.heap.size->W'.heap[c]? = W.heap[c]?):Below W.heap.size W W':=
 ⟨h.1,h.2.1,h.2.2.1,h.2.2.2.1,h.2.2.2.2⟩
theorem Ik (hl:laidOutB P=true){W W':World}(hb:Below W.heap.size W W'):∀{ts:List TypeId} {vs:List Value} {ds:List (DataW H)} {ps:List MemPlace},(∀t∈ts,P.readableRec t=true/\t<P.types.size) ->
 DataW.TrodAll enc P W 0 (fun _=>true) true ts vs ds ps->(∀x∈ps,x.block<W.heap.size)->∀sp:Nat->Bool,(∀p∈ps,sp p.block=true)->DataW.TrodAll enc P W' 0 sp true ts vs ds ps
 | [],vs,ds,ps,_,h,_,sp,_=>by obtain⟨rfl,rfl,rfl⟩:=trodAll_nil h;rfl
 | t::ts,vs,ds,ps,ht,h,hlt,sp,hsp=>by
  obtain⟨v,vs',d,ds',p,q,rfl,rfl,rfl,h1,h2⟩:=trodAll_cons h;obtain⟨g1,g2⟩:=ht t ax;refine trodAll_cons_mk (WideElems.Trod_stays hl g1 g2 h1 (fun x hx=>hb.same (hlt x (by simp[hx]))) (fun x hx=>hsp x (by simp[hx]))) ?_;exact Ik hl hb (fun t ht'=>ht t (by simp[ht'])) h2 (fun x hx=>hlt x (by simp[hx])) sp fun x hx=>hsp x (by simp[hx])
theorem SS {f:Func}{s:ChangeSpec}{apart fresh handsOn again:Bool}{W W':World}{args:Array Value}{ds gs:List (DataW H)}{before:List MemPlace}(hW:DataW.Whole enc P f.params.toList s.vars apart W args.toList ds gs before)
 (hl:laidOutB P=true) (ht:∀t∈f.params.toList,P.readableRec t=true/\t<P.types.size) (hvars:s.vars=[]) (hb:Below W.heap.size W W')
 {bt:TypeId} (hbt:P.underlying bt=some .bool) (hrt:f.resultTypes = #[bt]) (h1:(s.fn H (ds++gs)).results=[.lit (.bool true)]) (h2:(s.fn H (ds++gs)).args=ds) (h3:(s.fn H (ds++gs)).vars=[]) :
 s.post enc P f apart fresh handsOn again W args (.bool true) W':=by
 have hlt:∀x∈before,x.block<W.heap.size:=fun x hx=>by simpa using hW.lt x hx
 have hold:∀p∈before,(fun b=>decide (b<W.heap.size)) p.block=true:=bc;have hW':=hW;obtain⟨p,q,hA,hV,hpq,hz,hn⟩:=hW';rw[hvars]at hV;obtain⟨hgs,hq⟩:=trodVars_none hV;subst hq;rw[List.append_nil]at hpq;subst hpq;have hargs:=Ik hl hb ht hA hlt;have hargs':∀sp:Nat->Bool,(∀p∈before,sp p.block=true)->DataW.TrodAll enc P W' 0 sp true f.params.toList args.toList (s.fn H (ds++gs)).args before:=by
  rw[h2];exact hargs
 have hres:∀(b:Nat) (sp:Nat->Bool) (hd:Bool),DataW.TrodAll enc P W' b sp hd f.resultTypes.toList ((Value.bool true).resultList f.resultTypes.size) (s.fn H (ds++gs)).results []:=by
  intro b sp hd;rw[h1,hrt];exact trodAll_cons_mk (shut_bool hbt true) trodAll_mk0
 have hvar:∀sp:Nat->Bool,DataW.TrodVars enc P W' sp s.vars (s.fn H (ds++gs)).vars []:=by
  intro sp;rw[hvars,h3];rfl
 have hkept:W.keptBut W' (fun _=>False):=by
  refine⟨hb.os,hb.output,fun i hi=>?_⟩;have:=(World.keptBut_refl W (fun _=>False)).2.2 i hi;rw[hb.block i hi];exact this
 refine⟨ds,gs,before,[],before,[],hW,hres _ _ _,hargs' _ hold,hvar _,World.keptBut_mono ax hkept,fun _=>?_⟩;refine⟨ok_one hrt rfl (okWide_bool_mk hbt true),_,_,([]++before)++[],⟨[]++before,[],trodAll_append (hargs' _ (fun _ _=>rfl)) (hres _ _ _),hvar _,rfl,?_,?_⟩,?_⟩
 . intro b off hp;have hp':MemPlace.cell b off∈before:=by simpa using hp
   have hlt':=hlt _ hp';rw[Ha (w:=W) (hb.block b hlt')];exact hz b off hp'
 . grind
 grind
end Go.Ab
namespace Go.Ab
variable {ks:List Nat} {N:Nat}
variable {P:Program} {gl:Nat->Option AV} {ρ:aW} {w:World} {h:ab}
mutual
def eh:AV->Bool
 | .vp l=>l.isEmpty
 | .vs l _ _=>l.isEmpty
 | .fn _ a b=>gm a && gm b
 | .iface _ v=>eh v
 | .agg l=>gm l
 | .aw l=>gm l
 | _=>true
def gm:List AV->Bool
 | []=>true
 | v::r=>eh v && gm r
end
theorem iG:∀{l:List AV} {i:Nat} {x:AV},gm l=true->l[i]? = some x->eh x=true
 | [],i,x,_,h=>by simp at h
 | v::r,0,x,h,hx=>by simp only[gm,br]at h;grind
 | v::r,i+1,x,h,hx=>by simp only[gm,br]at h;simp at hx;exact iG h.2 hx
inductive Rn (ks:List Nat) (N:Nat):AV->AV->Prop
 | same {v:AV} (ht:v.top=0):Rn ks N v v
 | sl {i b off len esz:Nat} {cap:Option Nat} (hi:ks[i]? = some b):Rn ks N (.sl b off len esz cap) (.sl (N+i) off len esz cap)
 | ptr {i b off:Nat} (hi:ks[i]? = some b):Rn ks N (.ptr b off) (.ptr (N+i) off)
 | map {i b:Nat} (hi:ks[i]? = some b):Rn ks N (.map b) (.map (N+i))
 | vs {l l0:List AV} {n:Nat} {cap:Option Nat} (hl:l.length=l0.length) (hg:∀(i:Nat) x y,l[i]? = some x->l0[i]? = some y->Rn ks N x y):Rn ks N (.vs l n cap) (.vs l0 n cap)
 | agg {l l0:List AV} (hl:l.length=l0.length) (hg:∀(i:Nat) x y,l[i]? = some x->l0[i]? = some y->Rn ks N x y):Rn ks N (.agg l) (.agg l0)
 | aw {l l0:List AV} (hl:l.length=l0.length) (hg:∀(i:Nat) x y,l[i]? = some x->l0[i]? = some y->Rn ks N x y):Rn ks N (.aw l) (.aw l0)
 | fn {f:Fn} {fi fi0 ca ca0:List AV} (hf:∀l,f≠.yield l) (h1:fi.length=fi0.length) (h2:ca.length=ca0.length) (g1:∀(i:Nat) x y,fi[i]? = some x->fi0[i]? = some y->Rn ks N x y)
     (g2:∀(i:Nat) x y,ca[i]? = some x->ca0[i]? = some y->Rn ks N x y):Rn ks N (.fn f fi ca) (.fn f fi0 ca0)
def kM (ks:List Nat)(N:Nat)(l l0:List AV):Prop:=l.length=l0.length/\∀(i:Nat) x y,l[i]? = some x->l0[i]? = some y->Rn ks N x y
inductive sQ (ks:List Nat) (N:Nat):bV->bV->Prop
 | cells {l l0:List AV} {e:TypeId} (h:kM ks N l l0):sQ ks N (.cells l e) (.cells l0 e)
 | map {es es0:List (AV×AV)} (h1:kM ks N (es.map (·.1)) (es0.map (·.1))) (h2:kM ks N (es.map (·.2)) (es0.map (·.2))):sQ ks N (.map es) (.map es0)
def wz:bV->Bool
 | .cells l _=>gm l
 | .map es=>gm (es.map (·.1)) && gm (es.map (·.2))
 | _=>true
theorem kM.nil:kM ks N [] []:=⟨rfl,ax⟩
theorem kM.cons {x y:AV}{l m:List AV}(h1:Rn ks N x y)(h2:kM ks N l m):kM ks N (x::l) (y::m):=by
 refine⟨by simp[h2.1],fun i a b ha hb=>?_⟩;cases i with
 | zero=>grind
 | succ i=>simp at ha hb;exact h2.2 i a b ha hb
theorem kM.same {l:List AV}(ht:bO l=0):kM ks N l l:=
 ⟨rfl,fun i x y hx hy=>by rw[hx]at hy;cases hy;exact .same (by have:=fR (n:=0) ac i x hx;omega)⟩
theorem Il {ρ' ρ1:aW}{a:AV}{v:Value}(ht:a.top=0)(hn:eh a=true)(hv:V ρ' w a v):V ρ1 w a v:=by
 have key:∀{a v},V ρ' w a v->a.top=0->eh a=true->V ρ1 w a v:=by
  intro a v hv;induction hv with
  | dO v=>exact fun _ _=>.dO v
  | bool b=>exact fun _ _=>.bool b
  | int k n=>exact fun _ _=>.int k n
  | str s=>exact fun _ _=>.str s
  | fx=>exact fun _ _=>.fx
  | ptr o hb=>exact fun h _=>by simp[AV.top]at h
  | fA o c o' hb=>exact fun h _=>by simp[AV.top]at h
  | @vp l c o g hf hc _ ih=>intro _ hn;simp only[eh,je]at hn;subst hn;exact .vp c o g ax ax ax
  | ah=>exact fun _ _=>.ah
  | sl hb hl hcap hs=>exact fun h _=>by simp[AV.top]at h
  | gO hb=>exact fun h _=>by simp[AV.top]at h
  | fQ c o' hb hl hcap=>exact fun h _=>by simp[AV.top]at h
  | gw hb=>exact fun h _=>by simp[AV.top]at h
  | gP a hb=>exact fun h _=>by simp[AV.top]at h
  | @vs l len capC cap c o g hf hl hcap hc _ ih=>intro _ hn;simp only[eh,je]at hn;subst hn;exact .vs c o g ax hl hcap ax ax
  | fB hcap=>exact fun _ _=>.fB hcap
  | gA a hcap=>exact fun _ _=>.gA a hcap
  | ee=>exact fun _ _=>.ee
  | map hb=>exact fun h _=>by simp[AV.top]at h
  | jb v hb=>exact fun h _=>by simp[AV.top]at h
  | yield hb=>exact fun h _=>by simp[AV.top]at h
  | @fn f fi ca _ _ hf h1 h2 _ _ ih1 ih2=>
   intro h hn;have hh:bO fi<=0/\bO ca<=0:=by
    cases f <;> simp only[AV.top]at h <;> exact⟨ac,ac⟩
   simp only[eh,br]at hn;exact .fn hf h1 h2 (fun i x y a b=>ih1 i x y a b (by have:=fR hh.1 i x a;omega) (iG hn.1 a)) (fun i x y a b=>ih2 i x y a b (by have:=fR hh.2 i x a;omega) (iG hn.2 a))
  | iN v hb=>exact fun h _=>by simp[AV.top]at h
  | fk=>exact fun _ _=>.fk
  | iface _ ih=>exact fun h hn=>.iface (ih (by simpa only[AV.top] using h) (by simpa only[eh] using hn))
  | eH=>exact fun _ _=>.eH
  | agg hl _ ih=>exact fun h hn=>.agg hl (fun i x y a b=>ih i x y a b (by have:=fR (n:=0) (by simpa only[AV.top,Nat.le_zero] using h) i x a;omega) (iG (by simpa only[eh] using hn) a))
  | aw hl _ ih=>exact fun h hn=>.aw hl (fun i x y a b=>ih i x y a b (by have:=fR (n:=0) (by simpa only[AV.top,Nat.le_zero] using h) i x a;omega) (iG (by simpa only[eh] using hn) a))
 grind
theorem Rn.view {ρ' ρ1:aW}(hρ:∀(i b:Nat),ks[i]? = some b->ρ1 (N+i)=ρ' b){a a1:AV}(hr:Rn ks N a a1) :
 (eh a=true\/∀c,dy ρ' c->dy ρ1 c)->∀{v:Value},V ρ' w a v->V ρ1 w a1 v:=by
 induction hr with
 | @same a ht=>
  intro hF v hv;rcases hF with hF|hF
  . exact Il ht hF hv
  . exact hv.ik (n:=0) ax hF ac
 | sl hi=>
  intro _ v hv;cases hv with
  | sl h1 h2 h3 h4=>exact .sl bc h2 h3 h4
  | gO h1=>exact .gO bc
  | fQ c o' h1 h2 h3=>exact .fQ c o' bc h2 h3
  | gw h1=>exact .gw bc
  | gP a h1=>exact .gP a bc
 | ptr hi=>
  intro _ v hv;cases hv with
  | ptr _ h1=>exact .ptr _ bc
  | fA _ _ _ h1=>exact .fA _ _ _ bc
 | map hi=>
  intro _ v hv;cases hv with
  | map h1=>exact .map bc
  | jb c h1=>exact .jb c bc
 | @vs l l0 n cap hl hg ih=>
  intro hF v hv;cases hv with
  | vs c o g hf h2 h3 h4 h5=>
   by_cases hn:l=[]
   . subst hn;have:l0=[]:=bc;subst this;exact .vs c o g ax h2 h3 ax ax
   . have hF':∀c,dy ρ' c->dy ρ1 c:=by
      rcases hF with hF|hF
      . simp only[eh,je]at hF;grind
      . exact hF
     refine .vs c o g bc h2 h3 bc (fun i y hy=>?_);have hi:i<l.length:=by have:=(be.1 hy).1;omega
     exact ih i _ y (bj hi) hy (.inr hF') (h5 i _ (bj hi))
  | fB hc=>
   have:l0=[]:=bc;subst this;exact .fB hc
  | gA a hc=>
   have:l0=[]:=bc;subst this;exact .gA a hc
 | @agg l l0 hl hg ih=>
  intro hF v hv;cases hv with
  | @agg _ mm h1 h2=>
   refine .agg ac fun i y z hy hz=>?_
   have hi:i<l.length:=by have:=(be.1 hy).1;omega
   exact ih i _ y (bj hi) hy (hF.imp (fun h=>by simp only[eh]at h;exact iG h (bj hi)) id) (h2 i _ z (bj hi) hz)
 | @aw l l0 hl hg ih=>
  intro hF v hv;cases hv with
  | @aw _ mm h1 h2=>
   refine .aw ac fun i y z hy hz=>?_
   have hi:i<l.length:=by have:=(be.1 hy).1;omega
   exact ih i _ y (bj hi) hy (hF.imp (fun h=>by simp only[eh]at h;exact iG h (bj hi)) id) (h2 i _ z (bj hi) hz)
 | @fn f fi fi0 ca ca0 hf h1 h2 g1 g2 ih1 ih2=>
  intro hF v hv;cases hv with
  | fn hf' a1 a2 a3 a4=>
   refine .fn hf ac ac (fun i y z hy hz=>?_) (fun i y z hy hz=>?_)
   . have hi:i<fi.length:=by have:=(be.1 hy).1;omega
     exact ih1 i _ y (bj hi) hy (hF.imp (fun h=>by simp only[eh,br]at h;exact iG h.1 (bj hi)) id) (a3 i _ z (bj hi) hz)
   . have hi:i<ca.length:=by have:=(be.1 hy).1;omega
     exact ih2 i _ y (bj hi) hy (hF.imp (fun h=>by simp only[eh,br]at h;exact iG h.2 (bj hi)) id) (a4 i _ z (bj hi) hz)
  | yield _=>grind
  | iN _ _=>grind
inductive Fr (h:ab) (S:List Nat):AV->AV->Prop
 | same {v:AV} (ht:v.top=0):Fr h S v v
 | nil {cap:Option Nat} (hc:∀n,cap=some n->n=0):Fr h S .ah (.vs [] 0 cap)
 | sl {b off len esz:Nat} {cap cap':Option Nat} {l m m0:List AV} {e:TypeId} (hb:b∈S) (ha:h.at b=some (.cells l e)) (hc:cut l off (len*esz)=some m) (hl:m.length=m0.length)
     (hg:∀(i:Nat) x y,m[i]? = some x->m0[i]? = some y->Fr h S x y) (hcc:cap'=cap\/cap'=none:=by exact .inl rfl):Fr h S (.sl b off len esz cap) (.vs m0 len cap')
 | ptr {b off:Nat} {l m0:List AV} {e:TypeId} (hb:b∈S) (ha:h.at b=some (.cells l e)) (hl:(l.drop off).length=m0.length)
     (hg:∀(i:Nat) x y,(l.drop off)[i]? = some x->m0[i]? = some y->Fr h S x y):Fr h S (.ptr b off) (.vp m0)
 | vs {l l0:List AV} {n:Nat} {cap:Option Nat} (hl:l.length=l0.length) (hg:∀(i:Nat) x y,l[i]? = some x->l0[i]? = some y->Fr h S x y):Fr h S (.vs l n cap) (.vs l0 n cap)
 | agg {l l0:List AV} (hl:l.length=l0.length) (hg:∀(i:Nat) x y,l[i]? = some x->l0[i]? = some y->Fr h S x y):Fr h S (.agg l) (.agg l0)
 | aw {l l0:List AV} (hl:l.length=l0.length) (hg:∀(i:Nat) x y,l[i]? = some x->l0[i]? = some y->Fr h S x y):Fr h S (.aw l) (.aw l0)
 | fn {f:Fn} {fi fi0 ca ca0:List AV} (hf:∀l,f≠.yield l) (h1:fi.length=fi0.length) (h2:ca.length=ca0.length) (g1:∀(i:Nat) x y,fi[i]? = some x->fi0[i]? = some y->Fr h S x y)
     (g2:∀(i:Nat) x y,ca[i]? = some x->ca0[i]? = some y->Fr h S x y):Fr h S (.fn f fi ca) (.fn f fi0 ca0)
def fJ (h:ab)(S:List Nat)(l l0:List AV):Prop:=l.length=l0.length/\∀(i:Nat) x y,l[i]? = some x->l0[i]? = some y->Fr h S x y
def ew (ρ:aW)(S:List Nat):aW:=⟨fun _=>.fresh,fun c=>ρ.X c\/∃b d,ρ b = .live c d/\b∉S⟩
theorem dy.ew {c:Nat}(S:List Nat)(hf:dy ρ c):dy (ew ρ S) c:=by
 refine⟨fun b d hb=>by simp[Go.Ab.ew]at hb,?_⟩;rintro(hx|⟨b,d,hb,_⟩)
 . exact hf.2 hx
 . exact hf.1 b d hb
theorem Fr.view (m:Mem P gl ρ h w){S:List Nat}{a a0:AV}(hr:Fr h S a a0):∀{v:Value},V ρ w a v->V (ew ρ S) w a0 v:=by
 have hfree:∀{b c d},b∈S->ρ b = .live c d->dy (ew ρ S) c:=fun {b c d} hb hl=>by
  refine⟨fun b d hb=>by simp[Go.Ab.ew]at hb,?_⟩;rintro(hx|⟨b',d',hb',hn⟩)
  . exact m.xo _ _ _ hl hx
  . exact hn (m.inj _ _ _ _ _ hb' hl ▸ hb)
 have hat:∀{b o},h.at b=some o->h[b]? = some (some o):=fun {b o} hb=>by
  unfold ab.at at hb;grind
 induction hr with
 | same ht=>exact fun hv=>hv.ik (n:=0) ax (fun c hc=>hc.ew S) ac
 | nil hc=>
  intro v hv;cases hv;exact .fB hc
 | @sl b off len esz cap cap' l m' m0 e hb ha hc hl hg hcc ih=>
  intro v hv;have hB:=m.dP b _ (hat ha);have hcut:m'.length=len*esz/\∀i,i<m'.length->m'[i]? = l[off+i]? := by
   simp only[cut]at hc;split at hc
   . grind
   . cases hc
  cases hv with
  | @sl _ c d _ _ _ capC _ h1 h2 h3 h4=>
   have h3:∀n,cap'=some n->capC=n:=bc;rcases hB with ⟨c',d',cs,fr,g1,g2,g3,g4,g5⟩|⟨g1,_⟩
   . rw[h1]at g1;cases g1;refine .vs c (off+d) (fun i=>cs.getD (off+d+i) (.bool false)) bc h2 h3 (fun i hi=>?_) (fun i y hy=>?_)
     . have hi':i<m'.length:=by omega
       have hlt:off+i<l.length:=by
        have:=hcut.2 i hi';rw[bj hi']at this;exact(be.1 this.symm).1
       have:off+d+i<cs.size:=by have:=g3.1;omega
       simp only[nD,g2];simp[this,j5]
     . have hi:i<m0.length:=(be.1 hy).1;have hi':i<m'.length:=by omega
       have hx:=hcut.2 i hi';rw[bj hi']at hx;have hlt:off+i<l.length:=(be.1 hx.symm).1;have hs:off+d+i<cs.size:=by have:=g3.1;omega
       refine ih i m'[i] y (bj hi') hy ?_;refine g5 (off+i) _ _ hx.symm ?_;rw[show off+i+d=off+d+i from by omega];simp[hs,j5]
   grind
  | @gO _ _ h1=>
   rcases hB with ⟨c',d',cs,fr,g1,_⟩|⟨g1,g2⟩
   . grind
   . have:m0=[]:=bc;subst this;exact .fB bc
  | fQ c o' h1 _ _=>
   rcases hB with ⟨c',d',cs,fr,g1,_⟩|⟨g1,g2⟩ <;> (rw[h1]at g1;cases g1)
  | gP a h1=>
   rcases hB with ⟨c',d',cs,fr,g1,_⟩|⟨g1,g2⟩ <;> (rw[h1]at g1;cases g1)
  | gw h1=>
   rcases hB with ⟨c',d',cs,fr,g1,_⟩|⟨g1,g2⟩ <;> (rw[h1]at g1;cases g1)
 | @ptr b off l m0 e hb ha hl hg ih=>
  intro v hv;have hB:=m.dP b _ (hat ha);cases hv with
  | @ptr _ c d _ h1=>
   rcases hB with ⟨c',d',cs,fr,g1,g2,g3,g4,g5⟩|⟨g1,_⟩
   . rw[h1]at g1;cases g1;refine .vp c (off+d) (fun i=>cs.getD (off+d+i) (.bool false)) bc (fun i hi=>?_) (fun i y hy=>?_)
     . have:off+d+i<cs.size:=by have:=g3.1;simp at hl;omega
       simp only[nD,g2];simp[this,j5]
     . have hi:i<m0.length:=(be.1 hy).1;have hi':i<(l.drop off).length:=by omega
       have hlt:off+i<l.length:=by simp at hi';omega
       have hs:off+d+i<cs.size:=by have:=g3.1;omega
       refine ih i _ y (bj hi') hy ?_;refine g5 (off+i) _ _ ax ?_;rw[show off+i+d=off+d+i from by omega];simp[hs,j5]
   grind
  | fA _ c o' h1=>
   rcases hB with ⟨c',d',cs,fr,g1,_⟩|⟨g1,g2⟩ <;> (rw[h1]at g1;cases g1)
 | @vs l l0 n cap hl hg ih=>
  intro v hv;cases hv with
  | vs c o g hf h2 h3 h4 h5=>
   refine .vs c o g (fun hn=>(hf fun e=>?_).ew S) h2 h3 bc (fun i y hy=>?_)
   . grind
   . have hi:i<l.length:=by have:=(be.1 hy).1;omega
     exact ih i _ y (bj hi) hy (h5 i _ (bj hi))
  | fB hc=>
   have:l0=[]:=bc;subst this;exact .fB hc
  | gA a hc=>
   have:l0=[]:=bc;subst this;exact .gA a hc
 | @agg l l0 hl hg ih=>
  intro v hv;cases hv with
  | @agg _ mm h1 h2=>
   refine .agg ac fun i y z hy hz=>?_
   have hi:i<l.length:=by have:=(be.1 hy).1;omega
   exact ih i _ y (bj hi) hy (h2 i _ z (bj hi) hz)
 | @aw l l0 hl hg ih=>
  intro v hv;cases hv with
  | @aw _ mm h1 h2=>
   refine .aw ac fun i y z hy hz=>?_
   have hi:i<l.length:=by have:=(be.1 hy).1;omega
   exact ih i _ y (bj hi) hy (h2 i _ z (bj hi) hz)
 | @fn f fi fi0 ca ca0 hf h1 h2 g1 g2 ih1 ih2=>
  intro v hv;cases hv with
  | fn hf' a1 a2 a3 a4=>
   refine .fn hf ac ac (fun i y z hy hz=>?_) (fun i y z hy hz=>?_)
   . have hi:i<fi.length:=by have:=(be.1 hy).1;omega
     exact ih1 i _ y (bj hi) hy (a3 i _ z (bj hi) hz)
   . have hi:i<ca.length:=by have:=(be.1 hy).1;omega
     exact ih2 i _ y (bj hi) hy (a4 i _ z (bj hi) hz)
  | yield _=>grind
  | iN _ _=>grind
theorem fJ.view (m:Mem P gl ρ h w){S:List Nat}{l l0:List AV}(hr:fJ h S l l0){vs:List Value}(hv:VL ρ w l vs):VL (ew ρ S) w l0 vs:=
 ⟨by rw[←hr.1];exact hv.1,fun i y z hy hz=>by
  have hi:i<l.length:=by have:=(be.1 hy).1;have:=hr.1;omega
  exact(hr.2 i _ y (bj hi) hy).view m (hv.2 i _ z (bj hi) hz)⟩
theorem Mem.ew (hgl:∀g v,gl g=some v->v.top=0)(m:Mem P gl ρ h w)(S:List Nat):Mem P gl (ew ρ S) [] w:=by
 refine⟨ax,fun b _=>rfl,?_,?_,?_,?_,fun g v hg=>?_⟩
 . intro b b' c d d' h1;simp[Go.Ab.ew]at h1
 . intro b c d h1;simp[Go.Ab.ew]at h1
 . rintro c (hc|⟨b,d,hb,_⟩)
   . exact m.xb c hc
   . exact m.bound b c d hb
 . intro b c d h1;simp[Go.Ab.ew]at h1
 . exact(m.gl g v hg).ik (n:=0) ax (fun c hc=>hc.ew S) bc
theorem Im (m:Mem P gl ρ h w){S ks:List Nat}{v v1:AV}{hh:ab}{bs:List bV}{v':Value}{w':World}(hnd:ks.Nodup)(hv1:Rn ks h.length v v1)(hlen:ks.length=bs.length)
 (hbs:∀(i b:Nat) o1,ks[i]? = some b->bs[i]? = some o1->∃o,hh.at b=some o/\sQ ks h.length o o1/\(S=[]\/wz o=true)) (hn:S=[]\/eh v=true) (hd:fE P gl (ew ρ S) [] w ⟨v,hh,[]⟩ v' w') :
 fE P gl ρ h w ⟨v1,h++bs.map some,[]⟩ v' w':=by
 obtain⟨ρ',hv,m',x⟩:=hd;have di:∀c,c<w.heap.size->w'.heap[c]? = w.heap[c]? := fun c hc=>x.di c hc fun b d hb=>by simp[Go.Ab.ew]at hb
 have new:∀b c d,ρ' b = .live c d->w.heap.size<=c:=fun b c d hb=>by
  rcases bA c w.heap.size with hc|hc
  . rcases x.back b c d hb hc with h1|⟨b0,d0,h1,_⟩ <;> simp[Go.Ab.ew]at h1
  omega
 have hat:∀{b o},hh.at b=some o->hh[b]? = some (some o):=fun {b o} hb=>by
  unfold ab.at at hb;grind
 let ρ1:aW:=⟨fun b=>if b<h.length then ρ b else match ks[b-h.length]? with|some k=>ρ' k|none=>.fresh,ρ.X⟩
 have hlt:∀b,b<h.length->ρ1 b=ρ b:=bc;have hge:∀(i k:Nat),ks[i]? = some k->ρ1 (h.length+i)=ρ' k:=bc;have hback:∀b c d,h.length<=b->ρ1 b = .live c d->∃k:Nat,ks[b-h.length]? = some k/\ρ' k = .live c d:=bc;have hfr:∀b,ρ b≠.fresh->b<h.length:=fun b hb=>by
  rcases bA b h.length with h1|h1
  . exact h1
  . exact absurd (m.fresh b h1) hb
 have E:Ext h (h++bs.map some) ρ ρ1 w w':=by
  refine⟨x.os,x.tape,x.output,x.size,ax,rfl,?_,?_,?_,?_,?_,?_,?_,x.shape⟩
  . grind
  . grind
  . grind
  . grind
  . grind
  . grind
  . grind
 have hF:S=[]->∀c,dy ρ' c->dy ρ1 c:=by
  intro hS c hc;have hX:ρ'.X=(ew ρ S).X:=x.X;have h2:=hc.2;rw[hX]at h2;refine⟨fun b d hb=>?_,fun hx=>h2 (.inl hx)⟩;rcases bA b h.length with h1|h1
  . rw[hlt b h1]at hb;exact h2 (.inr ⟨b,d,hb,bc⟩)
  . obtain⟨k,_,hk⟩:=hback b c d h1 hb;exact hc.1 _ _ hk
 have hvs:∀{a a1:AV} {u:Value},(S=[]\/eh a=true)->Rn ks h.length a a1->V ρ' w' a u->V ρ1 w' a1 u:=fun {a a1 u} hc hr hu=>
  hr.view hge bc hu
 refine⟨ρ1,hvs hn hv1 hv,m.ext E ?_ ?_ ?_ ?_,E⟩
 . intro b o hb;rcases bA b h.length with h1|h1
   . rw[cZ h1]at hb;exact(m.dP b o hb).mono E (hlt b h1) fun c d hl=>di c (m.bound b c d hl)
   . rw[fu h1]at hb;obtain⟨o1,hq,rfl⟩:∃o1,bs[b-h.length]? = some o1/\o1=o:=by grind
     have hi:b-h.length<ks.length:=by have:=(be.1 hq).1;omega
     have hk:ks[b-h.length]? = some ks[b-h.length]:=bj hi;obtain⟨o,ho,hB,hnb⟩:=hbs _ _ _ hk hq;have hB':=m'.dP _ _ (hat ho);have hb1:ρ1 b=ρ' ks[b-h.length]:=by have:=hge _ _ hk;rwa [show h.length+(b-h.length)=b from by omega]at this
     cases hB with
     | @cells l l0 e hl=>
      rcases hB' with ⟨c,d,cs,fr,g1,g2,g3,g4,g5⟩|⟨g1,g2⟩
      . refine .inl ⟨c,d,cs,fr,hb1.trans g1,g2,⟨by have:=hl.1;have:=g3.1;omega,fun he=>⟨(g3.2 he).1,by have:=hl.1;have:=(g3.2 he).2;omega⟩⟩,g4,fun i y z hy hz=>?_⟩;have hi:i<l.length:=by have:=(be.1 hy).1;have:=hl.1;omega
        exact hvs (hnb.imp id fun hh'=>iG hh' (bj hi)) (hl.2 i _ y (bj hi) hy) (g5 i _ z (bj hi) hz)
      . refine .inr ⟨hb1.trans g1,?_⟩;have:=hl.1;grind
     | @map es es0 hl1 hl2=>
      obtain⟨c,ms,clk,g1,g2,g3,g4⟩:=hB';have hle:es.length=es0.length:=by have:=hl1.1;simpa using this
      refine⟨c,ms,clk,hb1.trans g1,g2,ac,fun i kx vx mm hx hm=>?_⟩;have hi:i<es.length:=by have:=(be.1 hx).1;omega
      have he:es[i]? = some (es[i].1,es[i].2):=bj hi;obtain⟨q1,q2⟩:=g4 i _ _ mm he hm;have r1:=hl1.2 i es[i].1 kx (by simp[he]) (by simp[hx]);have r2:=hl2.2 i es[i].2 vx (by simp[he]) (by simp[hx]);have hnn:S=[]\/(eh es[i].1=true/\eh es[i].2=true):=hnb.imp id fun hh'=>by
       simp only[wz,br]at hh';exact⟨iG hh'.1 (i:=i) (by simp[he]),iG hh'.2 (i:=i) (by simp[he])⟩
      grind
 . grind
 . intro b b' c d d' h1 h2;rcases bA b h.length with hb|hb <;> rcases bA b' h.length with hb'|hb'
   . rw[hlt b hb]at h1;rw[hlt b' hb']at h2;exact m.inj _ _ _ _ _ h1 h2
   . obtain⟨k,_,hk⟩:=hback _ _ _ hb' h2;rw[hlt b hb]at h1;have:=m.bound _ _ _ h1;grind
   . obtain⟨k,_,hk⟩:=hback _ _ _ hb h1;rw[hlt b' hb']at h2;have:=m.bound _ _ _ h2;grind
   . obtain⟨k,e1,hk⟩:=hback _ _ _ hb h1;obtain⟨k',e2,hk'⟩:=hback _ _ _ hb' h2;have:=m'.inj _ _ _ _ _ hk hk';subst this;obtain⟨l1,q1⟩:=be.1 e1;obtain⟨l2,q2⟩:=be.1 e2;have:=(List.getElem_inj hnd).1 (q1.trans q2.symm);omega
 . intro b c d hb;rcases bA b h.length with h1|h1
   . rw[hlt b h1]at hb;exact gc (m.bound _ _ _ hb) x.size
   . obtain⟨k,_,hk⟩:=hback _ _ _ h1 hb;exact m'.bound _ _ _ hk
theorem Io (hgl:∀g v,gl g=some v->v.top=0){f:Nat}{as as0:List AV}{v v1:AV}{hh:ab}{bs:List bV}{S ks:List Nat}(hr:fJ h S as as0)(hnd:ks.Nodup)(hv1:Rn ks h.length v v1)(hlen:ks.length=bs.length)
 (hbs:∀(i b:Nat) o1,ks[i]? = some b->bs[i]? = some o1->∃o,hh.at b=some o/\sQ ks h.length o o1/\(S=[]\/wz o=true)) (hn:S=[]\/eh v=true)
 (hloc:bG P gl ⟨f,as0,[],⟨v,hh,[]⟩⟩):bG P gl ⟨f,as,h,⟨v1,h++bs.map some,[]⟩⟩:=by
 refine⟨Be _ _ _,fun ρ w as' m hl=>?_⟩;obtain⟨nx,w1,h1,h2⟩:=hloc.2 (ew ρ S) w as' (m.ew hgl S) (hr.view m hl);exact⟨nx,w1,h1,h2.mono fun v w' hd=>Im m hnd hv1 hlen hbs hn hd⟩
end Go.Ab
namespace Go.Ab
variable {c:al} {s:au} {Q:au->Prop} {l:List bz} {a b n:Int} {x y i:aZ} {t:Nat} {pe as:List AV} {lo:List (Nat×AV)} {hp:ab} {df wr:List Nat} {d:fN} {v:AV} {r:HR} {k:IntKind}
structure ay where
 ext:FuncId->List AV->ab->Option HR
 inv:fy
 FT:FuncId->Option dm
abbrev ay.ev (M:ay)(n:Nat):=bK M.ext M.inv M.FT n
abbrev ay.call (M:ay)(n:Nat):=iM (M.ev n) M.ext M.FT
structure W (M:ay)(c:al)(s:au)(Q:Ex->au->Prop):Prop where
 out:∃n e s',M.ev n c s=some (e,s')/\Q e s'
structure WO (M:ay)(l:List bz)(s:au)(Q:au->Prop):Prop where
 out:∃n s',fH (M.call n) M.inv l s=some s'/\Q s'
structure WD (M:ay)(l:List (bz×List Nat))(s:au)(ds:List cJ)(Q:au->Prop):Prop where
 out:∃n s',eK (M.call n) M.inv l s ds=some s'/\Q s'
structure WC (M:ay)(g:AV)(as:List AV)(h:ab)(Q:HR->Prop):Prop where
 out:∃n r,M.call n g as h=some r/\Q r
def bm (M:ay)(f:FuncId)(as:List AV)(h:ab)(r:HR):Prop:=∃n,iF (M.ev n) M.FT f as h=some r
variable {M:ay}
theorem wA {n m:Nat}(h:n<=m){c:al}{s:au}{x:Ex×au}(hx:M.ev n c s=some x):M.ev m c s=some x:=wy h c s x hx
theorem jD {n m:Nat}(h:n<=m):qI (M.call n) (M.call m):=Ih (wy h)
theorem W.mono {Q R:Ex->au->Prop}(h:W M c s Q)(hr:∀e s',Q e s'->R e s'):W M c s R:=by
 obtain⟨⟨n,e,s',h1,h2⟩⟩:=h;exact⟨⟨n,e,s',h1,hr _ _ h2⟩⟩
theorem WO.mono {R:au->Prop}(h:WO M l s Q)(hr:∀s',Q s'->R s'):WO M l s R:=by
 obtain⟨⟨n,s',h1,h2⟩⟩:=h;exact⟨⟨n,s',h1,hr _ h2⟩⟩
structure SQ (M:ay)(b:al)(Q:Ex->au->Prop)(e:Ex)(s:au):Prop where
 out:match e with
  | .normal=>W M b s Q
  | e=>Q e s
structure BQ (id:Nat)(Q:Ex->au->Prop)(e:Ex)(s:au):Prop where
 out:match e with
  | .exit i=>if i=id then Q .normal s else Q (.exit i) s
  | e=>Q e s
structure LQ (M:ay)(c:al)(Q:Ex->au->Prop)(e:Ex)(s:au):Prop where
 out:match e with
  | .normal=>W M (.loop c) s Q
  | e=>Q e s
theorem adA {Q:Ex->au->Prop}(h:Q .normal s):W M .skip s Q:=⟨⟨1,.normal,s,rfl,h⟩⟩
theorem acG {Q:Ex->au->Prop}(h:Q .ret s):W M .ret s Q:=⟨⟨1,.ret,s,rfl,h⟩⟩
theorem aeM {i:Nat}{Q:Ex->au->Prop}(h:Q (.exit i) s):W M (.exit i) s Q:=⟨⟨1,.exit i,s,rfl,h⟩⟩
theorem abx {a b:al}{Q:Ex->au->Prop}(h:W M a s (SQ M b Q)):W M (.seq a b) s Q:=by
 obtain⟨⟨n,e,s1,h1,⟨h2⟩⟩⟩:=h;cases e with
 | normal=>
  obtain⟨⟨m,e,s2,h3,h4⟩⟩:=h2;refine⟨⟨max n m+1,e,s2,?_,h4⟩⟩;show bK _ _ _ _ _ _=_;rw[bK,show bK M.ext M.inv M.FT (max n m) _ s=_ from wA ac h1];exact wA ac h3
 | exit i=>refine⟨⟨n+1,.exit i,s1,?_,h2⟩⟩;show bK _ _ _ _ _ _=_;rw[bK,show bK _ _ _ n a s=_ from h1]
 | ret=>refine⟨⟨n+1,.ret,s1,?_,h2⟩⟩;show bK _ _ _ _ _ _=_;rw[bK,show bK _ _ _ n a s=_ from h1]
theorem aef {id:Nat}{Q:Ex->au->Prop}(h:W M c s (BQ id Q)):W M (.block id c) s Q:=by
 obtain⟨⟨n,e,s1,h1,⟨h2⟩⟩⟩:=h;have h1':bK M.ext M.inv M.FT n c s=some (e,s1):=h1;cases e with
 | normal=>refine⟨⟨n+1,.normal,s1,?_,h2⟩⟩;show bK _ _ _ _ _ _=_;rw[bK,h1']
 | ret=>refine⟨⟨n+1,.ret,s1,?_,h2⟩⟩;show bK _ _ _ _ _ _=_;rw[bK,h1']
 | exit i=>
  simp only at h2;split at h2
  . rename_i hi;refine⟨⟨n+1,.normal,s1,?_,h2⟩⟩;show bK _ _ _ _ _ _=_;rw[bK,h1'];grind
  . rename_i hi;refine⟨⟨n+1,.exit i,s1,?_,h2⟩⟩;show bK _ _ _ _ _ _=_;rw[bK,h1'];grind
theorem W.loop {Q:Ex->au->Prop}(h:W M c s (LQ M c Q)):W M (.loop c) s Q:=by
 obtain⟨⟨n,e,s1,h1,⟨h2⟩⟩⟩:=h;have h1':bK M.ext M.inv M.FT n c s=some (e,s1):=h1;cases e with
 | normal=>
  obtain⟨⟨m,e,s2,h3,h4⟩⟩:=h2;refine⟨⟨max n m+1,e,s2,?_,h4⟩⟩;show bK _ _ _ _ _ _=_;rw[bK,show bK M.ext M.inv M.FT (max n m) _ s=_ from wA ac h1];exact wA ac h3
 | exit i=>refine⟨⟨n+1,.exit i,s1,?_,h2⟩⟩;show bK _ _ _ _ _ _=_;rw[bK,h1']
 | ret=>refine⟨⟨n+1,.ret,s1,?_,h2⟩⟩;show bK _ _ _ _ _ _=_;rw[bK,h1']
theorem aif {t:Bool}{a b:al}{Q:Ex->au->Prop}(h:s.s.ae x=some (.bool t))(h1:t=true->W M a s Q)(h2:t=false->W M b s Q):W M (.cond x a b) s Q:=by
 cases t with
 | true=>
  obtain⟨⟨n,e,s',h3,h4⟩⟩:=h1 rfl;refine⟨⟨n+1,e,s',?_,h4⟩⟩;show bK _ _ _ _ _ _=_;rw[bK,h];exact h3
 | false=>
  obtain⟨⟨n,e,s',h3,h4⟩⟩:=h2 rfl;refine⟨⟨n+1,e,s',?_,h4⟩⟩;show bK _ _ _ _ _ _=_;rw[bK,h];exact h3
theorem acO {a b:al}{Q:Ex->au->Prop}(h:s.s.ae x=some (.bool true))(h1:W M a s Q):W M (.cond x a b) s Q:=aif h (fun _=>h1) (fun h=>by cases h)
theorem acM {a b:al}{Q:Ex->au->Prop}(h:s.s.ae x=some (.bool false))(h1:W M b s Q):W M (.cond x a b) s Q:=aif h (fun h=>by cases h) (fun _=>h1)
theorem abr {Q:Ex->au->Prop}(h:WO M l ⟨⟨pe,[],hp,df⟩,wr⟩ (Q .normal)):W M (.region l) ⟨⟨pe,lo,hp,df⟩,wr⟩ Q:=by
 obtain⟨⟨n,s',h1,h2⟩⟩:=h;refine⟨⟨n+1,.normal,s',?_,h2⟩⟩;show bK _ _ _ _ _ _=_;rw[bK,h1]
theorem afU {l:List (bz×List Nat)}{Q:Ex->au->Prop}(h:WD M l ⟨⟨pe,[],hp,df⟩,wr⟩ [] (Q .normal)):W M (.draw l) ⟨⟨pe,lo,hp,df⟩,wr⟩ Q:=by
 obtain⟨⟨n,s',h1,h2⟩⟩:=h;refine⟨⟨n+1,.normal,s',?_,h2⟩⟩;show bK _ _ _ _ _ _=_;rw[bK,h1]
theorem aaL (h:Q s):WO M [] s Q:=⟨⟨0,s,rfl,h⟩⟩
def bI.qJ:bI->Bool
 | .call .. | .invoke .. => false
 | _=>true
structure WP (M:ay)(s:St)(op:bI)(Q:HR->Prop):Prop where
 out:∃n r,cz (M.call n) M.inv s op=some r/\Q r
theorem WO.op {d:fN}{op:bI}{l:List bz}{s:au}{Q:au->Prop}(h:WP M s.s op fun r=>WO M l ⟨{ s.s.put d r.v with hp:=r.h },r.wr++s.wr⟩ Q):WO M (⟨d,op,none⟩::l) s Q:=by
 obtain⟨⟨n,r,h1,⟨⟨m,s',h2,h3⟩⟩⟩⟩:=h;refine⟨⟨max n m,s',?_,h3⟩⟩;simp only[fH,fl];rw[wv (jD ac) h1];exact mD (jD ac) _ _ _ h2
theorem WO.skip {op:bI}{t want:Bool}(hx:s.s.ae x=some (.bool t))(ht:(t == want)=false)(h:WO M l ⟨s.s.put d cM,s.wr⟩ Q):WO M (⟨d,op,some (x,want)⟩::l) s Q:=by
 obtain⟨⟨n,s',h1,h2⟩⟩:=h;refine⟨⟨n,s',?_,h2⟩⟩;simp only[fH,fl,hx,ht];exact h1
theorem WO.take {op:bI}{t want:Bool}(hx:s.s.ae x=some (.bool t))(ht:(t == want)=true)(h:WO M (⟨d,op,none⟩::l) s Q):WO M (⟨d,op,some (x,want)⟩::l) s Q:=by
 obtain⟨⟨n,s',h1,h2⟩⟩:=h;refine⟨⟨n,s',?_,h2⟩⟩;simp only[fH,fl,hx,ht]at h1 ⊢;exact h1
theorem WO.SU {op:bI}(hx:s.s.ae x=some (.aw [])){want:Bool}(h:WO M l ⟨s.s.put d cM,s.wr⟩ Q):WO M (⟨d,op,some (x,want)⟩::l) s Q:=by
 obtain⟨⟨n,s',h1,h2⟩⟩:=h;refine⟨⟨n,s',?_,h2⟩⟩;simp only[fH,fl,hx];exact h1
theorem afg {op:bI}(hx:s.s.ae x=some (.bool true))(h:WO M (⟨d,op,none⟩::l) s Q):WO M (⟨d,op,some (x,true)⟩::l) s Q:=WO.take hx rfl h
theorem ahQ {op:bI}(hx:s.s.ae x=some (.bool false))(h:WO M (⟨d,op,none⟩::l) s Q):WO M (⟨d,op,some (x,false)⟩::l) s Q:=WO.take hx rfl h
theorem ahU {op:bI}(hx:(St.mk pe lo hp df).ae x=some (.bool false))(h:WO M l ⟨⟨pe,(t,cM)::lo,hp,df⟩,wr⟩ Q):WO M (⟨.l t,op,some (x,true)⟩::l) ⟨⟨pe,lo,hp,df⟩,wr⟩ Q:=WO.skip hx rfl h
theorem aid {op:bI}(hx:(St.mk pe lo hp df).ae x=some (.bool true))(h:WO M l ⟨⟨pe,(t,cM)::lo,hp,df⟩,wr⟩ Q):WO M (⟨.l t,op,some (x,false)⟩::l) ⟨⟨pe,lo,hp,df⟩,wr⟩ Q:=WO.skip hx rfl h
theorem WP.pure {s:St}{op:bI}{Q:HR->Prop}(hh:op.bU=false)(hv:bF s op=some v)(h:Q ⟨v,s.hp,[]⟩):WP M s op Q:=by
 refine⟨⟨0,_,?_,h⟩⟩;cases op <;> first|(cases hh;done)|simp only[cz,bI.bU,hv,b9,if_false,cD]
theorem WP.heap {s:St}{op:bI}{Q:HR->Prop}(hh:op.bU=true)(hc:op.qJ=true)(hv:cg s op s.hp=some r)(h:Q r):WP M s op Q:=by
 refine⟨⟨0,_,?_,h⟩⟩;cases op <;> first|(cases hh;done)|(cases hc;done)|(simp only[cz,bI.bU,if_true];exact hv)
theorem WP.call {s:St}{f:aZ}{args:List aZ}{g:AV}{Q:HR->Prop}(hf:s.ae f=some g)(ha:s.db args=some as)(h:WC M g as s.hp Q):WP M s (.call f args) Q:=by
 obtain⟨⟨n,r,h1,h2⟩⟩:=h;refine⟨⟨n,r,?_,h2⟩⟩;simp only[cz,hf,ha];exact h1
theorem WC.ext {f:FuncId}{fi ca:List AV}{h:ab}{Q:HR->Prop}(he:M.ext f (fi++as++ca) h=some r)(hq:Q r):WC M (.fn (.func f) fi ca) as h Q:=
 ⟨⟨0,r,by simp only[iM,he],hq⟩⟩
theorem WO.Bx {f:aZ}{args:List aZ}{g:FuncId}{fi ca:List AV}(hf:s.s.ae f=some (.fn (.func g) fi ca))(ha:s.s.db args=some as)(he:M.ext g (fi++as++ca) s.s.hp=some r)
 (h:WO M l ⟨{ s.s.put d r.v with hp:=r.h },r.wr++s.wr⟩ Q):WO M (⟨d,.call f args,none⟩::l) s Q:=WO.op (WP.call hf ha (WC.ext he h))
theorem abA {op:bI}(hv:bF ⟨pe,lo,hp,df⟩ op=some v)(hh:op.bU=false)(h:WO M l ⟨⟨pe,(t,v)::lo,hp,df⟩,wr⟩ Q) :
 WO M (⟨.l t,op,none⟩::l) ⟨⟨pe,lo,hp,df⟩,wr⟩ Q:=WO.op (WP.pure hh hv h)
theorem abC {i:Nat}{op:bI}(hv:bF ⟨pe,lo,hp,df⟩ op=some v)(hh:op.bU=false)(h:WO M l ⟨⟨pe.set i v,lo,hp,df⟩,wr⟩ Q) :
 WO M (⟨.p i,op,none⟩::l) ⟨⟨pe,lo,hp,df⟩,wr⟩ Q:=WO.op (WP.pure hh hv h)
theorem WO.hl {op:bI}(hv:cg ⟨pe,lo,hp,df⟩ op hp=some r)(hh:op.bU=true)(hc:op.qJ=true)
 (h:WO M l ⟨⟨pe,(t,r.v)::lo,r.h,df⟩,r.wr++wr⟩ Q):WO M (⟨.l t,op,none⟩::l) ⟨⟨pe,lo,hp,df⟩,wr⟩ Q:=WO.op (WP.heap hh hc hv h)
theorem WO.hn {op:bI}(hv:cg ⟨pe,lo,hp,df⟩ op hp=some r)(hh:op.bU=true)(hc:op.qJ=true)
 (h:WO M l ⟨⟨pe,lo,r.h,df⟩,r.wr++wr⟩ Q):WO M (⟨.no,op,none⟩::l) ⟨⟨pe,lo,hp,df⟩,wr⟩ Q:=WO.op (WP.heap hh hc hv h)
theorem aep (hx:(St.mk pe lo hp df).ae x=some (.int k a))(hy:(St.mk pe lo hp df).ae y=some (.int k b))
 (h1:a<b->WO M l ⟨⟨pe,(t,.bool true)::lo,hp,df⟩,wr⟩ Q) (h2:b<=a->WO M l ⟨⟨pe,(t,.bool false)::lo,hp,df⟩,wr⟩ Q):WO M (⟨.l t,.bin .lss x y,none⟩::l) ⟨⟨pe,lo,hp,df⟩,wr⟩ Q:=by
 refine WO.op (WP.pure (v:=.bool (decide (a<b))) rfl (by simp[bF,hx,hy,dS]) ?_);by_cases h:a<b
 . rw[decide_eq_true h];exact h1 h
 . rw[decide_eq_false h];exact h2 ac
theorem aiw (hx:(St.mk pe lo hp df).ae x=some (.int k a))(hy:(St.mk pe lo hp df).ae y=some (.int k b))
 (h1:a<=b->WO M l ⟨⟨pe,(t,.bool true)::lo,hp,df⟩,wr⟩ Q) (h2:b<a->WO M l ⟨⟨pe,(t,.bool false)::lo,hp,df⟩,wr⟩ Q):WO M (⟨.l t,.bin .leq x y,none⟩::l) ⟨⟨pe,lo,hp,df⟩,wr⟩ Q:=by
 refine WO.op (WP.pure (v:=.bool (decide (a<=b))) rfl (by simp[bF,hx,hy,dS]) ?_);by_cases h:a<=b
 . rw[decide_eq_true h];exact h1 h
 . rw[decide_eq_false h];exact h2 ac
theorem aeq (hx:(St.mk pe lo hp df).ae x=some (.int k a))(hy:(St.mk pe lo hp df).ae y=some (.int k b))
 (h1:b<a->WO M l ⟨⟨pe,(t,.bool true)::lo,hp,df⟩,wr⟩ Q) (h2:a<=b->WO M l ⟨⟨pe,(t,.bool false)::lo,hp,df⟩,wr⟩ Q):WO M (⟨.l t,.bin .gtr x y,none⟩::l) ⟨⟨pe,lo,hp,df⟩,wr⟩ Q:=by
 refine WO.op (WP.pure (v:=.bool (decide (a > b))) rfl (by simp[bF,hx,hy,dS]) ?_);by_cases h:b<a
 . rw[decide_eq_true h];exact h1 h
 . rw[decide_eq_false h];exact h2 ac
theorem ahS (hx:(St.mk pe lo hp df).ae x=some (.int k a))(hy:(St.mk pe lo hp df).ae y=some (.int k b))
 (h1:b<=a->WO M l ⟨⟨pe,(t,.bool true)::lo,hp,df⟩,wr⟩ Q) (h2:a<b->WO M l ⟨⟨pe,(t,.bool false)::lo,hp,df⟩,wr⟩ Q):WO M (⟨.l t,.bin .geq x y,none⟩::l) ⟨⟨pe,lo,hp,df⟩,wr⟩ Q:=by
 refine WO.op (WP.pure (v:=.bool (decide (a>=b))) rfl (by simp[bF,hx,hy,dS]) ?_);by_cases h:b<=a
 . rw[decide_eq_true h];exact h1 h
 . rw[decide_eq_false h];exact h2 ac
theorem afe (hx:(St.mk pe lo hp df).ae x=some (.int k a))(hy:(St.mk pe lo hp df).ae y=some (.int k b))
 (h1:a=b->WO M l ⟨⟨pe,(t,.bool true)::lo,hp,df⟩,wr⟩ Q) (h2:a≠b->WO M l ⟨⟨pe,(t,.bool false)::lo,hp,df⟩,wr⟩ Q):WO M (⟨.l t,.bin .eql x y,none⟩::l) ⟨⟨pe,lo,hp,df⟩,wr⟩ Q:=by
 refine WO.op (WP.pure (v:=.bool (a == b)) rfl (by simp[bF,hx,hy,dS]) ?_);by_cases h:a=b
 . rw[beq_iff_eq.2 h];exact h1 h
 . rw[beq_eq_false_iff_ne.2 h];exact h2 h
theorem agx (hx:(St.mk pe lo hp df).ae x=some (.int k a))(hy:(St.mk pe lo hp df).ae y=some (.int k b))
 (h1:a≠b->WO M l ⟨⟨pe,(t,.bool true)::lo,hp,df⟩,wr⟩ Q) (h2:a=b->WO M l ⟨⟨pe,(t,.bool false)::lo,hp,df⟩,wr⟩ Q):WO M (⟨.l t,.bin .neq x y,none⟩::l) ⟨⟨pe,lo,hp,df⟩,wr⟩ Q:=by
 refine WO.op (WP.pure (v:=.bool (a != b)) rfl (by simp[bF,hx,hy,dS]) ?_);by_cases h:a=b
 . rw[bne_eq_false_iff_eq.2 h];exact h2 h
 . rw[bne_iff_ne.2 h];exact h1 h
theorem ahV {a b:List UInt8}(hx:(St.mk pe lo hp df).ae x=some (.str a))(hy:(St.mk pe lo hp df).ae y=some (.str b))
 (h1:a=b->WO M l ⟨⟨pe,(t,.bool true)::lo,hp,df⟩,wr⟩ Q) (h2:a≠b->WO M l ⟨⟨pe,(t,.bool false)::lo,hp,df⟩,wr⟩ Q):WO M (⟨.l t,.bin .eql x y,none⟩::l) ⟨⟨pe,lo,hp,df⟩,wr⟩ Q:=by
 refine WO.op (WP.pure (v:=.bool (a == b)) rfl (by simp[bF,hx,hy,dS]) ?_);by_cases h:a=b
 . rw[beq_iff_eq.2 h];exact h1 h
 . rw[beq_eq_false_iff_ne.2 h];exact h2 h
theorem aih {a b:List UInt8}(hx:(St.mk pe lo hp df).ae x=some (.str a))(hy:(St.mk pe lo hp df).ae y=some (.str b))
 (h1:a≠b->WO M l ⟨⟨pe,(t,.bool true)::lo,hp,df⟩,wr⟩ Q) (h2:a=b->WO M l ⟨⟨pe,(t,.bool false)::lo,hp,df⟩,wr⟩ Q):WO M (⟨.l t,.bin .neq x y,none⟩::l) ⟨⟨pe,lo,hp,df⟩,wr⟩ Q:=by
 refine WO.op (WP.pure (v:=.bool !(a == b)) rfl (by simp[bF,hx,hy,dS]) ?_);by_cases h:a=b
 . rw[beq_iff_eq.2 h];exact h2 h
 . rw[beq_eq_false_iff_ne.2 h];exact h1 h
theorem oJ (h : -9223372036854775808<=n/\n<9223372036854775808):IntKind.i64.wrap n=n:=IntWalk.i64_in _ ac
theorem aeX (hx:(St.mk pe lo hp df).ae x=some (.int .i64 a))(hy:(St.mk pe lo hp df).ae y=some (.int .i64 b))
 (hr : -9223372036854775808<=a+b/\a+b<9223372036854775808) (h:WO M l ⟨⟨pe,(t,.int .i64 (a+b))::lo,hp,df⟩,wr⟩ Q):WO M (⟨.l t,.bin .add x y,none⟩::l) ⟨⟨pe,lo,hp,df⟩,wr⟩ Q:=
 WO.op (WP.pure (v:=.int .i64 (a+b)) rfl (by simp[bF,hx,hy,dS,oJ hr]) h)
theorem afS (hx:(St.mk pe lo hp df).ae x=some (.int .i64 a))(hy:(St.mk pe lo hp df).ae y=some (.int .i64 b))
 (hr : -9223372036854775808<=a-b/\a-b<9223372036854775808) (h:WO M l ⟨⟨pe,(t,.int .i64 (a-b))::lo,hp,df⟩,wr⟩ Q):WO M (⟨.l t,.bin .sub x y,none⟩::l) ⟨⟨pe,lo,hp,df⟩,wr⟩ Q:=
 WO.op (WP.pure (v:=.int .i64 (a-b)) rfl (by simp[bF,hx,hy,dS,oJ hr]) h)
theorem aiE (hx:(St.mk pe lo hp df).ae x=some (.int .i64 a))(hy:(St.mk pe lo hp df).ae y=some (.int .i64 b))
 (hr : -9223372036854775808<=a*b/\a*b<9223372036854775808) (h:WO M l ⟨⟨pe,(t,.int .i64 (a*b))::lo,hp,df⟩,wr⟩ Q):WO M (⟨.l t,.bin .mul x y,none⟩::l) ⟨⟨pe,lo,hp,df⟩,wr⟩ Q:=
 WO.op (WP.pure (v:=.int .i64 (a*b)) rfl (by simp[bF,hx,hy,dS,oJ hr]) h)
theorem aiV (hx:(St.mk pe lo hp df).ae x=some (.int .i64 a))(hy:(St.mk pe lo hp df).ae y=some (.int .i64 b))
 (hb:0<b) (hr : -9223372036854775808<=a/\a<9223372036854775808) (h:WO M l ⟨⟨pe,(t,.int .i64 (a.tdiv b))::lo,hp,df⟩,wr⟩ Q):WO M (⟨.l t,.bin .quo x y,none⟩::l) ⟨⟨pe,lo,hp,df⟩,wr⟩ Q:=by
 have hb':b≠0:=by omega
 have h1:(a.tdiv b).natAbs<=a.natAbs:=by rw[Int.natAbs_tdiv];exact Nat.div_le_self _ _
 have h2 : -9223372036854775808<=a.tdiv b/\a.tdiv b<9223372036854775808:=by
  rcases Int.le_total 0 a with h0|h0
  . omega
  . have:a.tdiv b<=0:=by
     have:=Int.tdiv_nonneg (a:=-a) (b:=b) ac ac;rw[Int.neg_tdiv]at this;omega
    omega
 exact WO.op (WP.pure (v:=.int .i64 (a.tdiv b)) rfl (by simp[bF,hx,hy,dS,hb',oJ h2]) h)
theorem ais (hx:(St.mk pe lo hp df).ae x=some (.int k a))(hy:(St.mk pe lo hp df).ae y=some (.int k b))
 (hb:b≠0) (h:WO M l ⟨⟨pe,(t,.int k (a.tmod b))::lo,hp,df⟩,wr⟩ Q):WO M (⟨.l t,.bin .rem x y,none⟩::l) ⟨⟨pe,lo,hp,df⟩,wr⟩ Q:=
 WO.op (WP.pure (v:=.int k (a.tmod b)) rfl (by simp[bF,hx,hy,dS,hb]) h)
theorem ahT {esz:Nat}{c:List AV}{len:Nat}{cap:Option Nat}(hx:(St.mk pe lo hp df).ae x=some (.vs c len cap))(hy:(St.mk pe lo hp df).ae i=some (.int k n))
 (hb:0<=n/\n<len) (h:WO M l ⟨⟨pe,(t,.vp (c.drop (n.toNat*esz)))::lo,hp,df⟩,wr⟩ Q):WO M (⟨.l t,.dE none esz x i,none⟩::l) ⟨⟨pe,lo,hp,df⟩,wr⟩ Q:=
 WO.op (WP.pure (v:=.vp (c.drop (n.toNat*esz))) rfl (by simp[bF,hx,hy,qf,hb]) h)
theorem aic {esz b o len:Nat}{cap:Option Nat}(hx:(St.mk pe lo hp df).ae x=some (.sl b o len esz cap))(hy:(St.mk pe lo hp df).ae i=some (.int k n))
 (hb:0<=n/\n<len) (h:WO M l ⟨⟨pe,(t,.ptr b (o+n.toNat*esz))::lo,hp,df⟩,wr⟩ Q):WO M (⟨.l t,.dE none esz x i,none⟩::l) ⟨⟨pe,lo,hp,df⟩,wr⟩ Q:=
 WO.op (WP.pure (v:=.ptr b (o+n.toNat*esz)) rfl (by simp[bF,hx,hy,qf,hb]) h)
theorem aii {s:List UInt8}(hx:(St.mk pe lo hp df).ae x=some (.str s))(hy:(St.mk pe lo hp df).ae i=some (.int k n))
 (hb:0<=n/\n<s.length) (h:WO M l ⟨⟨pe,(t,.int .u8 (s[n.toNat]!).toNat)::lo,hp,df⟩,wr⟩ Q):WO M (⟨.l t,.index x i,none⟩::l) ⟨⟨pe,lo,hp,df⟩,wr⟩ Q:=by
 have h1:n.toNat<s.length:=by omega
 refine WO.op (WP.pure (v:=.int .u8 (s[n.toNat]!).toNat) rfl ?_ h);simp[bF,hx,hy,vh,hb.1,h1]
theorem aa {b:al}{s:au}{Q}(h:W M b s Q):SQ M b Q .normal s:=⟨h⟩
theorem bH {b:al}{s:au}{Q}{i:Nat}(h:Q (.exit i) s):SQ M b Q (.exit i) s:=⟨h⟩
theorem ba {b:al}{s:au}{Q}(h:Q .ret s):SQ M b Q .ret s:=⟨h⟩
theorem bC {b:Nat}{s:au}{Q}(h:Q .normal s):BQ b Q .normal s:=⟨h⟩
theorem cn {b:Nat}{s:au}{Q}(h:Q .ret s):BQ b Q .ret s:=⟨h⟩
theorem bJ {b:Nat}{s:au}{Q}(h:Q .normal s):BQ b Q (.exit b) s:=⟨bc⟩
theorem dT {b i:Nat}{s:au}{Q}(hn:d9 i b=false)(h:Q (.exit i) s):BQ b Q (.exit i) s:=
 ⟨by simp only;rw[if_neg (fun e=>by simp_all)];exact h⟩
theorem fX {b:al}{s:au}{Q}(h:W M (.loop b) s Q):LQ M b Q .normal s:=⟨h⟩
theorem cA {b:al}{s:au}{Q}{i:Nat}(h:Q (.exit i) s):LQ M b Q (.exit i) s:=⟨h⟩
theorem dr {b:al}{s:au}{Q}(h:Q .ret s):LQ M b Q .ret s:=⟨h⟩
theorem bX {f N:Nat}{aY:List Nat}{res:List fO}{body:al}{hh:ab}(hft:M.FT f=some ⟨N,aY,res,body⟩)(hN:as.length<=N)
 (h:W M body ⟨⟨aY.map (fun t=>(as[t]?).getD cM),[],[],[]⟩,[]⟩ fun e s=>(e = .normal\/e = .ret)/\s.s.cI=[]/\∃vs,dK s.s res=some vs/\bk vs=v/\(if v.top<=0 then [] else s.s.hp)=hh):bm M f as [] ⟨v,hh,[]⟩:=by
 obtain⟨⟨n,e,s,h1,h2,h3,vs,h4,h5,h6⟩⟩:=h;refine⟨n,?_⟩;have h1':bK M.ext M.inv M.FT n body ⟨⟨aY.map (fun t=>(as[t]?).getD cM),[],[],[]⟩,[]⟩=some (e,s):=h1;simp only[iF,hft];rw[if_neg ac];simp only[ay.ev,h1',if_pos h2,h3,mu,h4];subst h5;subst h6;have ht:tight s.s.hp 0 s.wr=true:=by
  simp only[tight,c5];intro b _;split <;> simp
 have hf:s.wr.filter (fun b=>decide (b<0))=[]:=by simp
 simp only[gh,f9,ht,d8,hf,List.take_zero,decide_eq_true_eq]<;>grind
end Go.Ab
namespace Go.Ab
variable {FT:FuncId->Option dm} {h:ab} {S:List Nat}
variable {P:Program} {gl:Nat->Option AV}
abbrev Spec:=List AV->ab->Option HR
def bM:List (Nat×Spec)->FuncId->List AV->ab->Option HR
 | [],_,_,_=>none
 | (g,sp)::T,f,as,h=>if d9 g f then sp as h else bM T f as h
def bl (P:Program)(gl:Nat->Option AV)(f:Nat)(sp:Spec):Prop:=∀as h r,sp as h=some r->bG P gl ⟨f,as,h,r⟩
theorem bP:cW P gl (bM []):=fun _ _ _ _ h=>by cases h
theorem aX {f:Nat}{sp:Spec}{T:List (Nat×Spec)}(h:bl P gl f sp)(hT:cW P gl (bM T)):cW P gl (bM ((f,sp)::T)):=by
 intro g all hp r hq;simp only[bM]at hq;split at hq
 . rename_i e;have e':=g9 e;subst e';exact h _ _ _ hq
 . exact hT g all hp r hq
def oK (k:XK):Spec:=fun as h=>(k.run as).map fun v=>⟨v,h,[]⟩
theorem By {f:Nat}{k:XK}(h:oF P f k):bl P gl f (oK k):=by
 intro as hp r hq;have:=Bu (P:=P) (gl:=gl) (L:=[(f,k)]) bc f as hp r;simp only[oG,Nat.beq_refl,if_true]at this;simp only[oK,bZ]at hq;obtain⟨v,hv,rfl⟩:=hq;exact this bc
def Bz (as0:List AV)(v:AV):Spec:=fun as h=>if wh as as0 then some ⟨v,h,[]⟩ else none
theorem SV (hgl:∀g v,gl g=some v->v.top=0){f:Nat}{as0:List AV}{v:AV}(hv:v.top=0)(htop:bO as0=0)(hloc:bG P gl ⟨f,as0,[],⟨v,[],[]⟩⟩):bl P gl f (Bz as0 v):=by
 intro as h r hq;simp only[Bz]at hq;split at hq
 . rename_i e;have e':=HZ e;subst e';cases hq;have:=Io (h:=h) (S:=[]) (ks:=[]) (bs:=[]) hgl (as:=as) ⟨rfl,fun i x y hx hy=>by rw[hx]at hy;cases hy;exact .same (by have:=fR (n:=0) ac i x hx;omega)⟩ ax (.same hv) rfl ax (.inl rfl) hloc<;>grind
 grind
structure kN (P:Program)(gl:Nat->Option AV)(FT:FuncId->Option dm):Prop where
 mix:P.follows .mixedOrders=true
 ft:nf P gl FT
 gl:∀g v,gl g=some v->v.top=0
abbrev bD (P:Program)(FT:FuncId->Option dm)(T:List (Nat×Spec)):ay:=⟨bM T,fP P,FT⟩
theorem sO (hs:kN P gl FT){T:List (Nat×Spec)}(hT:cW P gl (bM T)){f:Nat}{as:List AV}{h:ab}{r:HR}(hr:bm (bD P FT T) f as h r)(hw:gk h r):bG P gl ⟨f,as,h,r⟩:=by
 obtain⟨n,hn⟩:=hr;refine⟨hw,fun ρ w as' m hv=>?_⟩;obtain⟨h1,h2⟩:=vY (Bt hs.mix hT hs.ft n) hs.ft hn m hv;refine⟨_,_,h1,?_⟩;refine CallsIn.mono h2 fun e w' he=>?_<;>grind
theorem Ip (hs:kN P gl FT){T:List (Nat×Spec)}(hT:cW P gl (bM T)){f:Nat}{as as0:List AV}{h:ab}{S ks:List Nat}{v v1:AV}{hh:ab}{bs:List bV}(hr:bm (bD P FT T) f as0 [] ⟨v,hh,[]⟩)
 (hv:fJ h S as as0) (hnd:ks.Nodup) (hv1:Rn ks h.length v v1) (hlen:ks.length=bs.length)
 (hbs:∀(i b:Nat) o1,ks[i]? = some b->bs[i]? = some o1->∃o,hh.at b=some o/\sQ ks h.length o o1/\(S=[]\/wz o=true)) (hn:S=[]\/eh v=true):bG P gl ⟨f,as,h,⟨v1,h++bs.map some,[]⟩⟩:=
 Io hs.gl hv hnd hv1 hlen hbs hn (sO hs hT hr ⟨j3 _,fun _ hb=>bc⟩)
theorem jo (hs:kN P gl FT){T:List (Nat×Spec)}(hT:cW P gl (bM T)){f:Nat}{as as0:List AV}{h hh:ab}{S:List Nat}{v:AV}(hr:bm (bD P FT T) f as0 [] ⟨v,hh,[]⟩)
 (hv:fJ h S as as0) (ht:v.top=0) (hn:S=[]\/eh v=true):bG P gl ⟨f,as,h,⟨v,h,[]⟩⟩:=by
 have:=Ip hs hT (ks:=[]) (bs:=[]) hr hv ax (.same ht) rfl ax hn<;>grind
theorem fJ.nil:fJ h S [] []:=⟨rfl,ax⟩
theorem fJ.cons {x y:AV}{l m:List AV}(h1:Fr h S x y)(h2:fJ h S l m):fJ h S (x::l) (y::m):=by
 refine⟨by simp[h2.1],fun i a b ha hb=>?_⟩;cases i with
 | zero=>grind
 | succ i=>simp at ha hb;exact h2.2 i a b ha hb
theorem fJ.same {l:List AV}(ht:bO l=0):fJ h S l l:=
 ⟨rfl,fun i x y hx hy=>by rw[hx]at hy;cases hy;exact .same (by have:=fR (n:=0) ac i x hx;omega)⟩
def arr {α:Type}(f:α->List AV)(l:List α):List AV:=l.flatMap f
def ints (l:List Int):List AV:=arr (fun x=>[.int .i64 x]) l
theorem SW {a b:List AV}:gm (a++b)=(gm a && gm b):=by
 induction a with
 | nil=>rfl
 | cons x a ih=>simp only[ip,gm,ih,Bool.and_assoc]
theorem qK {α:Type}{f:α->List AV}(hf:∀a,gm (f a)=true):∀l:List α,gm (arr f l)=true
 | []=>rfl
 | a::l=>by
  have:=qK hf l;simp only[arr,i7,SW,hf]at this ⊢;simpa using this
def Sl {α:Type}(f:α->List AV)(h:ab)(v:AV)(l:List α):Prop:=
 (v = .ah/\l=[])\/(∃cap,v = .vs (arr f l) l.length cap)\/(∃b off esz cap c e,v = .sl b off l.length esz cap/\h.at b=some (.cells c e)/\cut c off (l.length*esz)=some (arr f l))
theorem SX {a b:List AV}:bO (a++b)=max (bO a) (bO b):=by
 induction a with
 | nil=>rfl
 | cons x a ih=>simp only[ip,bO,ih];omega
theorem oM {α:Type}{f:α->List AV}(hf:∀a,bO (f a)=0):∀l:List α,bO (arr f l)=0
 | []=>rfl
 | a::l=>by
  have:=oM hf l;simp only[arr,i7,SX,hf]at this ⊢;omega
theorem Sl.fr {α:Type}{f:α->List AV}(hf:∀a,bO (f a)=0){h:ab}{v:AV}{l:List α}(hs:Sl f h v l):∃S cap,Fr h S v (.vs (arr f l) l.length cap):=by
 rcases hs with ⟨rfl,rfl⟩|⟨cap,rfl⟩|⟨b,off,esz,cap,c,e,rfl,h1,h2⟩
 . exact⟨[],none,.nil ax⟩
 . exact⟨[],cap,.same (by simp only[AV.top];exact oM hf l)⟩
 . refine⟨[b],cap,.sl ax h1 h2 rfl fun i x y hx hy=>?_⟩;rw[hx]at hy;cases hy;exact .same (by have:=fR (n:=0) (Nat.le_of_eq (oM hf l)) i x hx;omega)
end Go.Ab
namespace Go.Ab
variable {t i j n b:Nat} {l:List bz} {pe a new:List AV} {lo:List (Nat×AV)} {hp h' h:ab} {df wr w':List Nat} {v:AV} {Q:au->Prop} {op:bI} {ag:Bool} {x y:aZ} {e:TypeId} {o:Option bV}
variable {M:ay}
theorem aeB {c a b:aZ}(hc:(St.mk pe lo hp df).ae c=some (.bool true))(ha:(St.mk pe lo hp df).ae a=some v)
 (h:WO M l ⟨⟨pe,(t,v)::lo,hp,df⟩,wr⟩ Q):WO M (⟨.l t,.pick c a b,none⟩::l) ⟨⟨pe,lo,hp,df⟩,wr⟩ Q:=
 WO.op (WP.pure (v:=v) rfl (by simp only[bF,hc,ha];cases (St.mk pe lo hp df).ae b <;> simp) h)
theorem aeC {c a b:aZ}(hc:(St.mk pe lo hp df).ae c=some (.bool false))(hb:(St.mk pe lo hp df).ae b=some v)
 (h:WO M l ⟨⟨pe,(t,v)::lo,hp,df⟩,wr⟩ Q):WO M (⟨.l t,.pick c a b,none⟩::l) ⟨⟨pe,lo,hp,df⟩,wr⟩ Q:=
 WO.op (WP.pure (v:=v) rfl (by simp only[bF,hc,hb];cases (St.mk pe lo hp df).ae a <;> simp) h)
theorem aev (hv:cg ⟨pe,lo,hp,df⟩ op hp=some ⟨v,h',w'⟩)(hh:op.bU=true)(hc:op.qJ=true)
 (h:WO M l ⟨⟨pe,(t,v)::lo,h',df⟩,w'++wr⟩ Q):WO M (⟨.l t,op,none⟩::l) ⟨⟨pe,lo,hp,df⟩,wr⟩ Q:=WO.op (WP.heap hh hc hv h)
theorem aes (hv:cg ⟨pe,lo,hp,df⟩ op hp=some ⟨v,h',w'⟩)(hh:op.bU=true)(hc:op.qJ=true)
 (h:WO M l ⟨⟨pe.set i v,lo,h',df⟩,w'++wr⟩ Q):WO M (⟨.p i,op,none⟩::l) ⟨⟨pe,lo,hp,df⟩,wr⟩ Q:=WO.op (WP.heap hh hc hv h)
theorem ahX (hv:cg ⟨pe,lo,hp,df⟩ op hp=some ⟨v,h',w'⟩)(hh:op.bU=true)(hc:op.qJ=true)
 (h:WO M l ⟨⟨pe,lo,h',df⟩,w'++wr⟩ Q):WO M (⟨.no,op,none⟩::l) ⟨⟨pe,lo,hp,df⟩,wr⟩ Q:=WO.op (WP.heap hh hc hv h)
theorem lG {α:Type}{f:α->List AV}(a:α)(l:List α):arr f (a::l)=f a++arr f l:=rfl
theorem BA {α:Type}{f:α->List AV}(l m:List α):arr f (l++m)=arr f l++arr f m:=by simp[arr]
section
variable {α:Type} {f:α->List AV} {esz:Nat}
theorem lH (hf:∀a,(f a).length=esz):∀l:List α,(arr f l).length=l.length*esz
 | []=>by simp[arr]
 | a::l=>by rw[lG,du,hf,lH hf l,f6,mp];omega
theorem BB (hf:∀a,(f a).length=esz):∀(l:List α) (i:Nat),(arr f l).drop (i*esz)=arr f (l.drop i)
 | [],i=>by simp[arr]
 | a::l,0=>by simp
 | a::l,i+1=>by
  rw[lG,lc,show (i+1)*esz=esz+i*esz from by grind,hf,gC,BB hf l i,List.drop_succ_cons,jt bc];rfl
theorem BC (hf:∀a,(f a).length=esz):∀(l:List α) (i:Nat),(arr f l).take (i*esz)=arr f (l.take i)
 | [],i=>by simp[arr]
 | a::l,0=>by simp[arr]
 | a::l,i+1=>by
  rw[lG,le,show (i+1)*esz=esz+i*esz from by grind,hf,gC,BC hf l i,List.take_succ_cons,dg bc];rfl
theorem mE (hf:∀a,(f a).length=esz){l:List α}{i n:Nat}(h:i+n<=l.length):cut (arr f l) (i*esz) (n*esz)=some (arr f ((l.drop i).take n)):=by
 simp only[cut,BB hf,BC hf,lH hf]<;>grind
theorem SY [ia:Inhabited α](hf:∀a,(f a).length=esz){l:List α}{i:Nat}(h:i<l.length):∃r,(arr f l).drop (i*esz)=f l[i]! ++ r:=by
 refine⟨arr f (l.drop (i+1)),?_⟩;grind[BB,f7,lG]
theorem SZ {r:List AV}(h:j+n<=a.length)(hn:ag=true\/0<n):partOf (a++r) j n ag=partOf a j n ag:=by
 cases ag with
 | true => 
   simp only[partOf,if_true,cut]<;>grind
 | false=>
  simp only[partOf,b9,if_false]<;>grind
theorem Iq:partOf (a.drop j) 0 n ag=partOf a j n ag:=by
 cases ag <;> simp[partOf,cut]
theorem BD [ia:Inhabited α](hf:∀a,(f a).length=esz){l:List α}{i j n:Nat}{ag:Bool}(h:i<l.length)(hj:j+n<=esz)(hn:0<n):partOf ((arr f l).drop (i*esz)) j n ag=partOf (f l[i]!) j n ag:=by
 obtain⟨r,hr⟩:=SY hf h;grind[SZ]
theorem Ta {b r:List AV}(h:j+new.length<=b.length):overwrite (a++(b++r)) (a.length+j) new=a++(overwrite b j new++r):=by
 have h1:(a++(b++r)).take (a.length+j)=a++b.take j:=by
  rw[le,dg ac,gC,List.take_append_of_le_length ac]
 have h2:(a++(b++r)).drop (a.length+j+new.length)=b.drop (j+new.length)++r:=by
  rw[lc,jt ac,de,show a.length+j+new.length-a.length=j+new.length from by omega,List.drop_append_of_le_length h]
 simp only[overwrite,h1,h2,List.append_assoc]
theorem Tb [ia:Inhabited α](hf:∀a,(f a).length=esz){l:List α}{i j:Nat}{new:List AV}{a:α}(h:i<l.length)(hj:j+new.length<=esz)(ha:overwrite (f l[i]!) j new=f a):overwrite (arr f l) (i*esz+j) new=arr f (l.set i a):=by
 have e:arr f l=arr f (l.take i)++(f l[i]! ++ arr f (l.drop (i+1))):=by
  rw[←lG,←BA,getElem!_pos l i h,←f7 h,List.take_append_drop]
 have hl:(arr f (l.take i)).length=i*esz:=by rw[lH hf,li];congr 1;omega
 grind[Ta,lG,BA,List.set_eq_take_append_cons_drop]
theorem Ir (a:α):∀n:Nat,iE (f a) n=arr f (fo n a)
 | 0=>rfl
 | n+1=>by rw[iE,Ir a n,j4,lG]
end
variable {α:Type} {ia:Inhabited α} {f:α->List AV} {esz:Nat}
theorem aib {c:List α}(hx:(St.mk pe lo hp df).ae x=some (.vp ((arr f c).drop (i*esz))))
 (hf:∀a,(f a).length=esz) (hi:i<c.length) (hn:0<n/\0+n<=esz) (hv:partOf (f c[i]!) 0 n ag=some v) (h:WO M l ⟨⟨pe,(t,v)::lo,hp,df⟩,wr⟩ Q):WO M (⟨.l t,.load n ag x,none⟩::l) ⟨⟨pe,lo,hp,df⟩,wr⟩ Q:=
 aev (v:=v) (h':=hp) (w':=[]) (by simp only[cg,hx,ci,gr,BD hf hi hn.2 hn.1,hv]) rfl rfl h
theorem aiW {c:List α}(hx:(St.mk pe lo hp df).ae x=some (.ptr b (0+i*esz)))(hb:hp.at b=some (.cells (arr f c) e))
 (hf:∀a,(f a).length=esz) (hi:i<c.length) (hn:0<n/\0+n<=esz) (hv:partOf (f c[i]!) 0 n ag=some v) (h:WO M l ⟨⟨pe,(t,v)::lo,hp,df⟩,wr⟩ Q):WO M (⟨.l t,.load n ag x,none⟩::l) ⟨⟨pe,lo,hp,df⟩,wr⟩ Q:=
 aev (v:=v) (h':=hp) (w':=[]) (by simp only[cg,hx,ci,gr,hb,gD,BD hf hi hn.2 hn.1,hv]) rfl rfl h
theorem aiS {a:AV}{c:List AV}(hx:(St.mk pe lo hp df).ae x=some a)(hb:gr hp a=some c)(hv:partOf c 0 n ag=some v)
 (h:WO M l ⟨⟨pe,(t,v)::lo,hp,df⟩,wr⟩ Q):WO M (⟨.l t,.load n ag x,none⟩::l) ⟨⟨pe,lo,hp,df⟩,wr⟩ Q:=
 aev (v:=v) (h':=hp) (w':=[]) (by simp only[cg,hx,ci,hb,hv]) rfl rfl h
theorem WO.Tc {c:List α}{a:α}(hx:(St.mk pe lo hp df).ae x=some (.ptr b (0+i*esz+j)))(hy:((St.mk pe lo hp df).ae y).bind AV.cells=some new)(hb:hp.at b=some (.cells (arr f c) e))
 (hf:∀a,(f a).length=esz) (hi:i<c.length) (hn:new.length=n/\j+n<=esz/\new.all dx=true) (ha:overwrite (f c[i]!) j new=f a) (h:WO M l ⟨⟨pe,lo,hp.put b (some (.cells (arr f (c.set i a)) e)),df⟩,b::wr⟩ Q):WO M (⟨.no,.store n x y,none⟩::l) ⟨⟨pe,lo,hp,df⟩,wr⟩ Q:=by
 obtain⟨h1,h2,h3⟩:=hn;have hle:i*esz+esz<=c.length*esz:=by rw[←Nat.succ_mul];exact Nat.mul_le_mul_right _ hi
 refine ahX (v:=cM) (h':=hp.put b (some (.cells (arr f (c.set i a)) e))) (w':=[b]) ?_ rfl rfl h;simp only[cg,hx,hy,hb,gD];rw[if_pos ⟨h1,by grind[lH],h3⟩,Tb hf hi ac ha]
theorem ajB {c:List α}{a:α}(hx:(St.mk pe lo hp df).ae x=some (.ptr b (0+i*esz)))(hy:((St.mk pe lo hp df).ae y).bind AV.cells=some new)(hb:hp.at b=some (.cells (arr f c) e))
 (hf:∀a,(f a).length=esz) (hi:i<c.length) (hn:new.length=n/\0+n<=esz/\new.all dx=true) (ha:overwrite (f c[i]!) 0 new=f a) (h:WO M l ⟨⟨pe,lo,hp.put b (some (.cells (arr f (c.set i a)) e)),df⟩,b::wr⟩ Q):WO M (⟨.no,.store n x y,none⟩::l) ⟨⟨pe,lo,hp,df⟩,wr⟩ Q:=
 WO.Tc (j:=0) hx hy hb hf hi hn ha h
theorem WO.Te {esz0 bytes:Nat}{elem:TypeId}{zero:List AV}{k k':IntKind}{a b:Int}(hx:(St.mk pe lo hp df).ae x=some (.int k a))(hy:(St.mk pe lo hp df).ae y=some (.int k' b))
 (hc:0<=a/\a<=b/\b.toNat*bytes<=fa/\b<=2^46/\zero.length=esz0) (h:WO M l ⟨⟨pe,(t,.sl hp.length 0 a.toNat esz0 (some b.toNat))::lo,hp++[some (.cells (iE zero b.toNat) elem)],df⟩,wr⟩ Q) :
 WO M (⟨.l t,.iB elem esz0 bytes zero x y,none⟩::l) ⟨⟨pe,lo,hp,df⟩,wr⟩ Q:=
 aev (v:=.sl hp.length 0 a.toNat esz0 (some b.toNat)) (h':=hp++[some (.cells (iE zero b.toNat) elem)]) (w':=[]) (by simp only[cg,hx,hy,ci,sh];grind) rfl rfl h
theorem gS {o:bV}(hb:h.at b=some o):b<h.length:=by
 unfold ab.at at hb;grind
theorem cj {x:Option bV}:ab.at (h++[x]) h.length=x:=by simp[ab.at]
theorem cB {l:ab}{o:bV}(hb:h.at b=some o):ab.at (h++l) b=some o:=by
 have:=gS hb;simp only[ab.at]at hb ⊢<;>grind
theorem cQ (hb:b<h.length):ab.at (h.put b o) b=o:=by
 simp[ab.at,ab.put,hb]
theorem wC {a:Nat}{x:bV}(hn:a≠b)(ha:h.at a=some x):ab.at (h.put b o) a=some x:=by
 have:¬b=a:=ac;simp only[ab.at,ab.put,c7,if_neg this]at ha ⊢;exact ha
theorem jM:(h.put b o).length=h.length:=by simp[ab.put]
def bI.ro:bI->Bool
 | .load .. => true
 | op=>!op.bU
def cJ.clean (d:cJ):Prop:=d.wr=[]/\d.hi=d.lo
theorem BE {T:List Nat}:ab.at (fz T h 0) b=if T.contains b then h.at b else none:=by
 unfold ab.at;grind[oC]
theorem BF {T:List Nat}:gg [] h (fz T h 0) 0=h:=by
 apply c9;intro b;rw[kJ _ _ _ _ _ (by rw[gR];simp)];grind[gT,gR]
def mF:Option AV->List Nat
 | some (.ptr b _)=>[b]
 | some (.sl b _ _ _ _)=>[b]
 | some (.map b)=>[b]
 | _=>[]
theorem Is {s:St}:mr s (.load n ag x)=some (mF (s.ae x)):=by
 rfl
theorem It {a:AV}:gr (fz (mF (some a)) h 0) a=gr h a:=by
 cases a <;> first|rfl|skip
 simp[gr,mF,BE]
theorem wD {call:fc}{inv:fy}{s:St}{a:AV}(ha:s.ae x=some a)(hp':ab):cz call inv { s with hp:=hp' } (.load n ag x)=(gr hp' a).bind fun l=>(partOf l 0 n ag).map fun v=>⟨v,hp',[]⟩:=by
 have hx':St.ae { s with hp:=hp' } x=some a:=by rw[←ha];cases x <;> rfl
 simp only[cz,bI.bU,if_true,cg,hx',ci]<;>grind
theorem wE {call:fc}{inv:fy}:∀(l:List (bz×List Nat)) (s:au) (ds:List cJ),l.all (fun p=>p.1.op.ro)=true->(∀d∈ds,d.clean)->eK call inv l s ds=fH call inv (l.map (·.1)) s
 | [],s,ds,_,_=>rfl
 | (o,un)::l,s,ds,hl,hd=>by
  simp only[ne,br]at hl;obtain⟨ho,hl⟩:=hl;have hcl:∀t,(∀d∈ds++[(⟨t,[],s.s.hp.length,s.s.hp.length⟩:cJ)],d.clean):=fun t d hm=>by
   rcases dc.1 hm with h1|h1
   . grind
   . simp only[i5]at h1;subst h1;exact⟨rfl,rfl⟩
  simp only[eK,List.map_cons,fH];split
  . by_cases hh:o.op.bU=true
    . have hop:∃n ag x,o.op = .load n ag x:=by
       cases hq:o.op <;> rw[hq]at ho hh <;> first|(cases hh;done)|(cases ho;done)|simp
      obtain⟨n,ag,x,hop⟩:=hop;have hU:un.flatMap (fun j=>(ds[j]?).elim [] cJ.own)=[]:=by
       rw[List.flatMap_eq_nil_iff];intro j _;cases hj:ds[j]? with
       | none=>rfl
       | some d=>
        obtain⟨c1,c2⟩:=hd d bc;simp[cJ.own,c1,c2]
      simp only[hop,bI.bU,if_true,Is,hU];have hdis:∀T,jl T []=true:=fun T=>by simp[jl]
      simp only[hdis,if_true];cases ha:s.s.ae x with
      | none=>
       have e1:∀hp',cz call inv { s.s with hp:=hp' } (.load n ag x)=none:=fun hp'=>by
        have hx':St.ae { s.s with hp:=hp' } x=none:=by rw[←ha];cases x <;> rfl
        simp only[cz,bI.bU,if_true,cg,hx',Option.bind_none]
       simp_all
      | some a=>
       have e2:=wD (call:=call) (inv:=inv) (n:=n) (ag:=ag) ha s.s.hp;rw[wD ha,It,show cz call inv s.s (.load n ag x)=_ from e2];cases gr s.s.hp a with
       | none=>rfl
       | some c=>
        simp only[ci];cases partOf c 0 n ag with
        | none=>rfl
        | some v=>
         simp only[cD,gF,iq,jN,d8,if_true,BF,de];have:=wE (call:=call) (inv:=inv) l ⟨{ s.s.put o.dst v with hp:=s.s.hp },s.wr⟩ (ds++[⟨some (mF (some a)),[],s.s.hp.length,s.s.hp.length⟩]) hl (hcl _);rw[←this];simp[gR]
    . have hh':o.op.bU=false:=by simpa using hh
      rw[if_neg hh];have e2:cz call inv s.s o.op=(bF s.s o.op).map fun v=>⟨v,s.s.hp,[]⟩:=by
       cases hq:o.op <;> rw[hq]at hh' <;> first|(cases hh';done)|simp only[cz,bI.bU,b9,if_false]
      rw[e2];cases bF s.s o.op with
      | none=>rfl
      | some v=>
       simp only[cD,de];have hput:({ s.s.put o.dst v with hp:=s.s.hp }:St)=s.s.put o.dst v:=by cases o.dst <;> rfl
       rw[hput];exact wE l _ _ hl (hcl _)
  . exact wE l _ _ hl (hcl _)
  . rfl
theorem ahZ {l:List (bz×List Nat)}{Q:Ex->au->Prop}(hl:l.all (fun p=>p.1.op.ro)=true)(h:WO M (l.map (·.1)) ⟨⟨pe,[],hp,df⟩,wr⟩ (Q .normal)):W M (.draw l) ⟨⟨pe,lo,hp,df⟩,wr⟩ Q:=by
 obtain⟨⟨n,s',h1,h2⟩⟩:=h;exact afU ⟨⟨n,s',by grind[wE],h2⟩⟩
end Go.Ab
namespace Go.Ab
variable {t n:Nat} {x y:aZ} {l:List (bz×List Nat)} {pe:List AV} {lo:List (Nat×AV)} {hp:ab} {df wr un T:List Nat} {a b:Int} {Q:au->Prop} {s:au} {ds:List cJ} {d:fN}
variable {M:ay}
theorem aju {l:List bz}(hx:(St.mk pe lo hp df).ae x=some (.int .i64 a))(hy:(St.mk pe lo hp df).ae y=some (.int .i64 b))
 (ha:0<=a/\0<b) (hr:a<9223372036854775808) (h:0<=a/b->a/b<=a->WO M l ⟨⟨pe,(t,.int .i64 (a/b))::lo,hp,df⟩,wr⟩ Q):WO M (⟨.l t,.bin .quo x y,none⟩::l) ⟨⟨pe,lo,hp,df⟩,wr⟩ Q:=by
 refine aiV hx hy ha.2 ⟨ac,hr⟩ ?_;rw[Int.tdiv_eq_ediv_of_nonneg ha.1];exact h (Int.ediv_nonneg ha.1 ac) (Int.ediv_le_self _ ha.1)
theorem aiy {l:List bz}{k:IntKind}(hx:(St.mk pe lo hp df).ae x=some (.int k a))(hy:(St.mk pe lo hp df).ae y=some (.int k b))
 (ha:0<=a/\0<b) (h:0<=a%b->a%b<b->WO M l ⟨⟨pe,(t,.int k (a%b))::lo,hp,df⟩,wr⟩ Q):WO M (⟨.l t,.bin .rem x y,none⟩::l) ⟨⟨pe,lo,hp,df⟩,wr⟩ Q:=by
 refine ais hx hy ac ?_;rw[Int.tmod_eq_emod_of_nonneg ha.1];exact h (Int.emod_nonneg _ ac) (Int.emod_lt_of_pos _ ha.2)
theorem adX {f:aZ}{args:List aZ}{l:List bz}{h':ab}{wr':List Nat}{g:FuncId}{fi ca as:List AV}{v:AV}(hf:(St.mk pe lo hp df).ae f=some (.fn (.func g) fi ca))(ha:(St.mk pe lo hp df).db args=some as)
 (he:M.ext g (fi++as++ca) hp=some ⟨v,h',wr'⟩) (h:WO M l ⟨⟨pe,(t,v)::lo,h',df⟩,wr'++wr⟩ Q):WO M (⟨.l t,.call f args,none⟩::l) ⟨⟨pe,lo,hp,df⟩,wr⟩ Q:=WO.Bx hf ha he h
theorem aiI {bytes:Nat}{elem:TypeId}{l:List bz}{k k':IntKind}{z:Int}{kz:IntKind}(hx:(St.mk pe lo hp df).ae x=some (.int k a))(hy:(St.mk pe lo hp df).ae y=some (.int k' b))
 (hc:0<=a/\a<=b/\b.toNat*bytes<=70368744177664/\b<=70368744177664) (h:WO M l ⟨⟨pe,(t,.sl hp.length 0 a.toNat 1 (some b.toNat))::lo,hp++[some (.cells (arr (fun x=>[.int kz x]) (fo b.toNat z)) elem)],df⟩,wr⟩ Q) :
 WO M (⟨.l t,.iB elem 1 bytes [.int kz z] x y,none⟩::l) ⟨⟨pe,lo,hp,df⟩,wr⟩ Q:=by
 refine WO.Te hx hy ⟨hc.1,hc.2.1,by simp only[fa];omega,ac,rfl⟩ ?_;have e:=Ir (f:=fun x=>[AV.int kz x]) z b.toNat;grind
theorem agy (h:Q s):WD M [] s ds Q:=⟨⟨0,s,rfl,h⟩⟩
def cJ.key (d:cJ):Option (List Nat)×List Nat:=(d.lj,d.own)
theorem Iv {call:fc}{inv:fy}:∀(l:List (bz×List Nat)) (s:au) (ds ds':List cJ),ds.map cJ.key=ds'.map cJ.key->eK call inv l s ds=eK call inv l s ds'
 | [],_,_,_,_=>rfl
 | (o,un)::l,s,ds,ds',hk=>by
  have h1:∀j:Nat,(ds[j]?).elim [] cJ.own=(ds'[j]?).elim [] cJ.own:=fun j=>by
   have:=congrArg (fun x:List (Option (List Nat)×List Nat)=>x[j]?) hk;simp only[d7]at this;cases h3:ds[j]? <;> cases h4:ds'[j]? <;> rw[h3,h4]at this <;> simp[cJ.key]at this ⊢<;>grind
  have h2:∀j:Nat,(ds[j]?).map cJ.lj=(ds'[j]?).map cJ.lj:=fun j=>by
   have:=congrArg (fun x:List (Option (List Nat)×List Nat)=>x[j]?) hk;simp only[d7]at this;cases h3:ds[j]? <;> cases h4:ds'[j]? <;> rw[h3,h4]at this <;> simp[cJ.key]at this ⊢<;>grind
  have h7:(fun j:Nat=>(ds[j]?).elim [] cJ.own)=(fun j:Nat=>(ds'[j]?).elim [] cJ.own):=funext h1;have h8:∀d s,eK call inv l s (ds++[d])=eK call inv l s (ds'++[d]):=fun d s=>Iv l s _ _ (by simp[hk])
  unfold eK;simp only[h7,h8]<;>grind
theorem WD.norm {d d':cJ}(hk:d.key=d'.key)(h:WD M l s (ds++[d]) Q):WD M l s (ds++[d']) Q:=by
 obtain⟨⟨n,s',h1,h2⟩⟩:=h;exact⟨⟨n,s',by grind[Iv],h2⟩⟩
theorem WD.Tf {o:bz}(hh:o.op.bU=false)(h:WO M [o] s fun s'=>WD M l s' (ds++[⟨some [],[],s.s.hp.length,s.s.hp.length⟩]) Q):WD M ((o,un)::l) s ds Q:=by
 obtain⟨⟨n,s1,h1,⟨⟨m,s',h2,h3⟩⟩⟩⟩:=h;refine⟨⟨max n m,s',?_,h3⟩⟩;have h1':=mD (inv:=M.inv) (jD (eL n m)) _ _ _ h1;have h2':=kL (inv:=M.inv) (jD (eA n m)) _ _ _ _ h2;simp only[fH]at h1';have e2:cz (M.call (max n m)) M.inv s.s o.op=(bF s.s o.op).map fun v=>⟨v,s.s.hp,[]⟩:=by
  cases hq:o.op <;> rw[hq]at hh <;> first|(cases hh;done)|simp only[cz,bI.bU,b9,if_false]
 rw[e2]at h1';cases hw:fl s.s o.guard with
 | none=>grind
 | some t=>
  rw[hw]at h1';cases t with
  | true=>
   simp only[eK,hw,hh,b9,if_false];cases hp:bF s.s o.op with
   | none=>grind
   | some v=>
    rw[hp]at h1';simp only[cD,de,ce.injEq]at h1';have hput:({ s.s.put o.dst v with hp:=s.s.hp }:St)=s.s.put o.dst v:=by cases o.dst <;> rfl
    grind
  | false=>
   simp only[ce.injEq]at h1';simp only[eK,hw]<;>grind
theorem Tg {h:ab}{b:Nat}{o:Option bV}:gg [b] h (ab.put (fz T h 0) b o) 0=ab.put h b o:=by
 apply c9;intro c;rw[kJ _ _ _ _ _ (by simp[ab.put,gR])];simp only[ab.put,c7,gR,oC]<;>grind
theorem WD.Th {ag:Bool}{a:AV}(ha:s.s.ae x=some a)(hT:mF (some a)=T)(hd:jl T (un.flatMap fun j=>(ds[j]?).elim [] cJ.own)=true)
 (h:WO M [⟨d,.load n ag x,none⟩] s fun s'=>WD M l s' (ds++[⟨some T,[],s.s.hp.length,s.s.hp.length⟩]) Q):WD M ((⟨d,.load n ag x,none⟩,un)::l) s ds Q:=by
 obtain⟨⟨k,s1,h1,⟨⟨m,s',h2,h3⟩⟩⟩⟩:=h;refine⟨⟨max k m,s',?_,h3⟩⟩;have h1':=mD (inv:=M.inv) (jD (eL k m)) _ _ _ h1;have h2':=kL (inv:=M.inv) (jD (eA k m)) _ _ _ _ h2;simp only[fH,fl]at h1';subst hT;simp only[eK,fl,bI.bU,if_true,Is,ha,hd];rw[wD ha,It];rw[show cz (M.call (max k m)) M.inv s.s (.load n ag x)=_ from wD ha s.s.hp]at h1';cases hr:gr s.s.hp a with
 | none=>grind
 | some c=>
  rw[hr]at h1';simp only[ci]at h1' ⊢;cases hp:partOf c 0 n ag with
  | none=>grind
  | some v=>
   rw[hp]at h1';simp only[cD,de,ce.injEq]at h1';simp only[cD,gF,iq,jN,d8,if_true,BF,de,gR]<;>grind
theorem WD.Ti {b off:Nat}(ha:s.s.ae x=some (.ptr b off))(hd:jl [b] (un.flatMap fun j=>(ds[j]?).elim [] cJ.own)=true)
 (hu:un.all (fun j=>match ds[j]? with|some d=>(match d.lj with|some T=>jl [b] T|none=>false)|none=>false)=true)
 (h:WO M [⟨.no,.store n x y,none⟩] s fun s'=>WD M l s' (ds++[⟨some [b],[b],s.s.hp.length,s.s.hp.length⟩]) Q):WD M ((⟨.no,.store n x y,none⟩,un)::l) s ds Q:=by
 obtain⟨⟨k,s1,h1,⟨⟨m,s',h2,h3⟩⟩⟩⟩:=h;refine⟨⟨max k m,s',?_,h3⟩⟩;have h1':=mD (inv:=M.inv) (jD (eL k m)) _ _ _ h1;have h2':=kL (inv:=M.inv) (jD (eA k m)) _ _ _ _ h2;simp only[fH,fl,cz,bI.bU,if_true,cg,ha]at h1';have hx':∀hp',St.ae { s.s with hp:=hp' } x=some (.ptr b off):=fun hp'=>by rw[←ha];rfl
 have hy':∀hp',St.ae { s.s with hp:=hp' } y=s.s.ae y:=fun hp'=>by rfl
 have hk:ab.at (fz [b] s.s.hp 0) b=s.s.hp.at b:=by simp[BE]
 simp only[eK,fl,bI.bU,if_true,mr,ha,hd,cz,cg,hx',hy'];cases hy:s.s.ae y with
 | none=>grind
 | some yv=>
  rw[hy]at h1';simp only[ci]at h1' ⊢;cases hc:yv.cells with
  | none=>grind
  | some new=>
   rw[hc]at h1';simp only at h1' ⊢;cases hb:s.s.hp.at b with
   | none=>grind
   | some o=>
    rw[hb]at h1';cases o with
    | cells c e=>
     simp only at h1' ⊢;by_cases hcond:new.length=n/\off+n<=c.length/\new.all dx=true
     . simp only[if_pos hcond,ce.injEq]at h1';simp only[if_pos hcond,ne,gF,d8,List.isEmpty_cons,Bool.false_or,hk,hb,Option.isSome_some,Tg,jM,gR]<;>grind
     grind
    | map _=>cases h1'
    | iter _ _=>cases h1'
    | ie=>cases h1'
    | hole=>cases h1'
    | loop _ _ _ _ _ _=>cases h1'
theorem WD.Iw {f:aZ}{args:List aZ}{g:FuncId}{fi ca as:List AV}{v:AV}{hn:ab}(hf:s.s.ae f=some (.fn (.func g) fi ca))(ha:s.s.db args=some as)
 (hU:(un.flatMap fun j=>(ds[j]?).elim [] cJ.own)=[]) (he:M.ext g (fi++as++ca) s.s.hp=some ⟨v,s.s.hp++hn,[]⟩)
 (h:WD M l ⟨{ s.s.put d v with hp:=s.s.hp++hn },s.wr⟩ (ds++[⟨none,[],s.s.hp.length,s.s.hp.length+hn.length⟩]) Q):WD M ((⟨d,.call f args,none⟩,un)::l) s ds Q:=by
 obtain⟨⟨m,s',h2,h3⟩⟩:=h;refine⟨⟨m,s',?_,h3⟩⟩;have hm:mask s.s.hp []=s.s.hp:=rfl;have hcall:cz (M.call m) M.inv { s.s with hp:=s.s.hp } (.call f args)=some ⟨v,s.s.hp++hn,[]⟩:=by
  simp only[cz,hf,ha,iM,he]
 have hmerge:gg [] s.s.hp (s.s.hp++hn) 0=s.s.hp++hn:=by
  apply c9;intro c;rw[kJ _ _ _ _ _ ax];split
  . grind
  . rfl
 simp only[eK,fl,bI.bU,if_true,mr,hU,hm]<;>grind
theorem sS {t:Option (List Nat)}{w:List Nat}:cJ.key ⟨t,w,n,n⟩=cJ.key ⟨t,w,0,0⟩:=by simp[cJ.key,cJ.own]
theorem ahl {o:bz}(hh:o.op.bU=false)(h:WO M [o] s fun s'=>WD M l s' (ds++[⟨some [],[],0,0⟩]) Q):WD M ((o,un)::l) s ds Q:=
 WD.Tf hh (h.mono fun _ h=>h.norm sS.symm)
theorem ahb {ag:Bool}{a:AV}(ha:s.s.ae x=some a)(hT:mF (some a)=T)(hd:jl T (un.flatMap fun j=>(ds[j]?).elim [] cJ.own)=true)
 (h:WO M [⟨d,.load n ag x,none⟩] s fun s'=>WD M l s' (ds++[⟨some T,[],0,0⟩]) Q):WD M ((⟨d,.load n ag x,none⟩,un)::l) s ds Q:=
 WD.Th ha hT hd (h.mono fun _ h=>h.norm sS.symm)
theorem ahY {b off:Nat}(ha:s.s.ae x=some (.ptr b off))(hd:jl [b] (un.flatMap fun j=>(ds[j]?).elim [] cJ.own)=true)
 (hu:un.all (fun j=>match ds[j]? with|some d=>(match d.lj with|some T=>jl [b] T|none=>false)|none=>false)=true)
 (h:WO M [⟨.no,.store n x y,none⟩] s fun s'=>WD M l s' (ds++[⟨some [b],[b],0,0⟩]) Q):WD M ((⟨.no,.store n x y,none⟩,un)::l) s ds Q:=
 WD.Ti ha hd hu (h.mono fun _ h=>h.norm sS.symm)
end Go.Ab
namespace Go.Ab
variable {t b:Nat} {op:bI} {x f i:aZ} {want ok:Bool} {l:List (bz×List Nat)} {pe fi ca as:List AV} {lo:List (Nat×AV)} {hp h:ab} {df wr un:List Nat} {Q:au->Prop} {args:List aZ} {g:FuncId} {kt:iY} {zero v:AV} {d:fN} {s:au} {ds:List cJ}
variable {M:ay}
theorem aiK {l:List bz}(hx:(St.mk pe lo hp df).ae x=some (.aw []))(h:WO M l ⟨⟨pe,(t,cM)::lo,hp,df⟩,wr⟩ Q):WO M (⟨.l t,op,some (x,want)⟩::l) ⟨⟨pe,lo,hp,df⟩,wr⟩ Q:=WO.SU hx h
theorem aim {l:List bz}{h':ab}{wr':List Nat}{b:Bool}(hf:(St.mk pe lo hp df).ae f=some (.fn (.func g) fi ca))(ha:(St.mk pe lo hp df).db args=some as)
 (he:M.ext g (fi++as++ca) hp=some ⟨.bool b,h',wr'⟩) (h1:b=true->WO M l ⟨⟨pe,(t,.bool true)::lo,h',df⟩,wr'++wr⟩ Q) (h2:b=false->WO M l ⟨⟨pe,(t,.bool false)::lo,h',df⟩,wr'++wr⟩ Q):WO M (⟨.l t,.call f args,none⟩::l) ⟨⟨pe,lo,hp,df⟩,wr⟩ Q:=by
 cases b with
 | true=>exact WO.Bx hf ha he (h1 rfl)
 | false=>exact WO.Bx hf ha he (h2 rfl)
theorem aja {l:List bz}{a:Int}(hx:(St.mk pe lo hp df).ae x=some (.int .i64 a))
 (hr : -9223372036854775808<a/\a<=9223372036854775808) (h:WO M l ⟨⟨pe,(t,.int .i64 (-a))::lo,hp,df⟩,wr⟩ Q):WO M (⟨.l t,.un .neg x,none⟩::l) ⟨⟨pe,lo,hp,df⟩,wr⟩ Q:=
 WO.op (WP.pure (v:=.int .i64 (-a)) rfl (by
  have:IntKind.i64.wrap (0-a) = -a:=by rw[show 0-a = -a from by omega];exact oJ ac
  simp[bF,hx,ve]at this ⊢;exact this) h)
theorem aiB {l:List bz}{kv:AV}{es:List (AV×AV)}(hx:(St.mk pe lo hp df).ae x=some (.map b))(hi:(St.mk pe lo hp df).ae i=some kv)
 (hk:kt.ok kv=true) (hb:hp.at b=some (.map es)) (hf:jB kv es 0=some none) (h:WO M l ⟨⟨pe,(t,if ok then .aw [zero,.bool false] else zero)::lo,hp,df⟩,wr⟩ Q):WO M (⟨.l t,.lookup kt zero x i ok,none⟩::l) ⟨⟨pe,lo,hp,df⟩,wr⟩ Q:=
 aev (v:=if ok then .aw [zero,.bool false] else zero) (h':=hp) (w':=[]) (by simp only[cg,hx,hi,hk,hb,hf,if_true,Option.isSome_none]) rfl rfl h
theorem WD.BG (hf:s.s.ae f=some (.fn (.func g) fi ca))(ha:s.s.db args=some as)
 (hU:(un.flatMap fun j=>(ds[j]?).elim [] cJ.own)=[]) (he:M.ext g (fi++as++ca) s.s.hp=some ⟨v,s.s.hp,[]⟩)
 (h:WD M l ⟨s.s.put d v,s.wr⟩ (ds++[⟨none,[],0,0⟩]) Q):WD M ((⟨d,.call f args,none⟩,un)::l) s ds Q:=by
 have hp:({ s.s.put d v with hp:=s.s.hp++[] }:St)=s.s.put d v:=by cases d <;> simp[St.put]
 refine WD.Iw (hn:=[]) hf ha hU (by simpa using he) ?_;rw[hp];exact h.norm (by simp[cJ.key,cJ.own])
theorem ahR (hf:(St.mk pe lo hp df).ae f=some (.fn (.func g) fi ca))(ha:(St.mk pe lo hp df).db args=some as)
 (hU:(un.flatMap fun j=>(ds[j]?).elim [] cJ.own)=[]) (he:M.ext g (fi++as++ca) hp=some ⟨v,hp,[]⟩)
 (h:WD M l ⟨⟨pe,(t,v)::lo,hp,df⟩,wr⟩ (ds++[⟨none,[],0,0⟩]) Q):WD M ((⟨.l t,.call f args,none⟩,un)::l) ⟨⟨pe,lo,hp,df⟩,wr⟩ ds Q:=WD.BG hf ha hU he h
theorem ait {hn:ab}(hf:(St.mk pe lo hp df).ae f=some (.fn (.func g) fi ca))(ha:(St.mk pe lo hp df).db args=some as)
 (hU:(un.flatMap fun j=>(ds[j]?).elim [] cJ.own)=[]) (he:M.ext g (fi++as++ca) hp=some ⟨v,hp++hn,[]⟩)
 (h:WD M l ⟨⟨pe,(t,v)::lo,hp++hn,df⟩,wr⟩ (ds++[⟨none,[],hp.length,hp.length+hn.length⟩]) Q):WD M ((⟨.l t,.call f args,none⟩,un)::l) ⟨⟨pe,lo,hp,df⟩,wr⟩ ds Q:=WD.Iw hf ha hU he h
theorem aiu {b:Bool}(hf:(St.mk pe lo hp df).ae f=some (.fn (.func g) fi ca))(ha:(St.mk pe lo hp df).db args=some as)
 (hU:(un.flatMap fun j=>(ds[j]?).elim [] cJ.own)=[]) (he:M.ext g (fi++as++ca) hp=some ⟨.bool b,hp,[]⟩)
 (h1:b=true->WD M l ⟨⟨pe,(t,.bool true)::lo,hp,df⟩,wr⟩ (ds++[⟨none,[],0,0⟩]) Q) (h2:b=false->WD M l ⟨⟨pe,(t,.bool false)::lo,hp,df⟩,wr⟩ (ds++[⟨none,[],0,0⟩]) Q):WD M ((⟨.l t,.call f args,none⟩,un)::l) ⟨⟨pe,lo,hp,df⟩,wr⟩ ds Q:=by
 cases b with
 | true=>exact WD.BG hf ha hU he (h1 rfl)
 | false=>exact WD.BG hf ha hU he (h2 rfl)
theorem WD.take {t:Bool}(hx:s.s.ae x=some (.bool t))(ht:(t == want)=true)(h:WD M ((⟨d,op,none⟩,un)::l) s ds Q):WD M ((⟨d,op,some (x,want)⟩,un)::l) s ds Q:=by
 obtain⟨⟨n,s',h1,h2⟩⟩:=h;refine⟨⟨n,s',?_,h2⟩⟩;simp only[eK,fl,hx,ht]at h1 ⊢;exact h1
theorem WD.skip (hx:s.s.ae x=some v)(ht:v = .bool !want\/v = .aw [])(h:WD M l ⟨s.s.put d cM,s.wr⟩ (ds++[⟨some [],[],0,0⟩]) Q):WD M ((⟨d,op,some (x,want)⟩,un)::l) s ds Q:=by
 obtain⟨⟨n,s',h1,h2⟩⟩:=h.norm (d':=⟨some [],[],s.s.hp.length,s.s.hp.length⟩) sS.symm;refine⟨⟨n,s',?_,h2⟩⟩;have hw:fl s.s (some (x,want))=some false:=by
  rcases ht with rfl|rfl
  . simp only[fl,hx];simp
  . simp only[fl,hx]
 simp only[eK,hw];exact h1
theorem ain (hx:s.s.ae x=some (.bool true))(h:WD M ((⟨d,op,none⟩,un)::l) s ds Q):WD M ((⟨d,op,some (x,true)⟩,un)::l) s ds Q:=WD.take hx rfl h
theorem ail (hx:s.s.ae x=some (.bool false))(h:WD M ((⟨d,op,none⟩,un)::l) s ds Q):WD M ((⟨d,op,some (x,false)⟩,un)::l) s ds Q:=WD.take hx rfl h
theorem aio (hx:(St.mk pe lo hp df).ae x=some (.bool false))(h:WD M l ⟨⟨pe,(t,cM)::lo,hp,df⟩,wr⟩ (ds++[⟨some [],[],0,0⟩]) Q):WD M ((⟨.l t,op,some (x,true)⟩,un)::l) ⟨⟨pe,lo,hp,df⟩,wr⟩ ds Q:=WD.skip hx (.inl rfl) h
theorem aip (hx:(St.mk pe lo hp df).ae x=some (.bool true))(h:WD M l ⟨⟨pe,(t,cM)::lo,hp,df⟩,wr⟩ (ds++[⟨some [],[],0,0⟩]) Q):WD M ((⟨.l t,op,some (x,false)⟩,un)::l) ⟨⟨pe,lo,hp,df⟩,wr⟩ ds Q:=WD.skip hx (.inl rfl) h
theorem Tj {call:fc}{inv:fy}{s:St}(ha:s.ae x=some (.map b))(hp':ab)(he:hp'.at b=s.hp.at b) :
 cz call inv { s with hp:=hp' } (.lookup kt zero x i ok)=(cz call inv s (.lookup kt zero x i ok)).map fun r=>⟨r.v,hp',[]⟩:=by
 have hx':St.ae { s with hp:=hp' } x=some (.map b):=by rw[←ha];cases x <;> rfl
 have hi':St.ae { s with hp:=hp' } i=s.ae i:=by cases i <;> rfl
 simp only[cz,bI.bU,if_true,cg,hx',hi',ha];cases s.ae i with
 | none=>rfl
 | some k=>
  simp only;by_cases hk:kt.ok k=true
  . simp only[hk,if_true]<;>grind
  grind
theorem aiv (ha:s.s.ae x=some (.map b))(hd:jl [b] (un.flatMap fun j=>(ds[j]?).elim [] cJ.own)=true)
 (h:WO M [⟨d,.lookup kt zero x i ok,none⟩] s fun s'=>WD M l s' (ds++[⟨some [b],[],0,0⟩]) Q):WD M ((⟨d,.lookup kt zero x i ok,none⟩,un)::l) s ds Q:=by
 obtain⟨⟨k,s1,h1,h2⟩⟩:=h;obtain⟨⟨m,s',h2,h3⟩⟩:=h2.norm (d':=⟨some [b],[],s.s.hp.length,s.s.hp.length⟩) sS.symm;refine⟨⟨max k m,s',?_,h3⟩⟩;have h1':=mD (inv:=M.inv) (jD (eL k m)) _ _ _ h1;have h2':=kL (inv:=M.inv) (jD (eA k m)) _ _ _ _ h2;simp only[fH,fl]at h1';have hk:ab.at (fz [b] s.s.hp 0) b=s.s.hp.at b:=by simp[BE]
 simp only[eK,fl,bI.bU,if_true,mr,ha,hd];rw[Tj ha _ hk];cases hq:cz (M.call (max k m)) M.inv s.s (.lookup kt zero x i ok) with
 | none=>grind
 | some r=>
  rw[hq]at h1';simp only[ce.injEq]at h1';have hr:r.h=s.s.hp/\r.wr=[]:=by
   simp only[cz,bI.bU,if_true,cg,ha]at hq;repeat' (first|(cases hq;done)|split at hq)
   all_goals first|(cases hq;exact⟨rfl,rfl⟩)
  simp only[cD,gF,iq,jN,d8,if_true,BF,de,gR]<;>grind
def bI.Ix:bI->Bool
 | .alloc .. | .box .. | .dW .. | .iB .. | .kC=>true
 | _=>false
theorem BH {s:St}{hp':ab}(x:aZ):St.ae { s with hp:=hp' } x=s.ae x:=by rfl
theorem Iy {s:St}{hp':ab}:∀(ps:List (Nat×Nat×aZ)),St.parts { s with hp:=hp' } ps=s.parts ps
 | []=>rfl
 | (o,n,x)::r=>by simp only[St.parts,BH,Iy r]
theorem Tk {call:fc}{inv:fy}{s:St}(hn:op.Ix=true){r:HR}(hq:cz call inv s op=some r):∃o,r.h=s.hp++[o]/\r.wr=[]/\∀hp':ab,hp'.length=s.hp.length->cz call inv { s with hp:=hp' } op=some ⟨r.v,hp'++[o],[]⟩:=by
 cases op <;> first|(cases hn;done)|skip
 case alloc e z=>
  simp only[cz,bI.bU,if_true,cg]at hq;cases hq;exact⟨_,rfl,rfl,fun hp' hl=>by simp only[cz,bI.bU,if_true,cg,hl]⟩
 case box e n x=>
  simp only[cz,bI.bU,if_true,cg]at hq;split at hq
  . rename_i c hc;split at hq
    . rename_i hlen;cases hq;exact⟨_,rfl,rfl,fun hp' hl=>by simp only[cz,bI.bU,if_true,cg,BH,hc,hl,if_pos hlen]⟩
    grind
  grind
 case dW e len esz z ps=>
  simp only[cz,bI.bU,if_true,cg]at hq;split at hq
  . rename_i vs hvs;split at hq
    . rename_i c hc;split at hq
      . rename_i hlen;cases hq;exact⟨_,rfl,rfl,fun hp' hl=>by simp only[cz,bI.bU,if_true,cg,Iy,hvs,hc,hl,if_pos hlen]⟩
      grind
    grind
  grind
 case kC=>
  simp only[cz,bI.bU,if_true,cg]at hq;cases hq;exact⟨_,rfl,rfl,fun hp' hl=>by simp only[cz,bI.bU,if_true,cg,hl]⟩
 case iB e esz by' z a b=>
  simp only[cz,bI.bU,if_true,cg]at hq;split at hq
  . rename_i x y hx hy;split at hq
    . rename_i hc;cases hq;exact⟨_,rfl,rfl,fun hp' hl=>by simp only[cz,bI.bU,if_true,cg,BH,hx,hy,hl,if_pos hc]⟩
    grind
  grind
theorem aij (hn:op.Ix=true)(h:WO M [⟨d,op,none⟩] s fun s'=>WD M l s' (ds++[⟨some [],[],s.s.hp.length,s.s.hp.length+1⟩]) Q):WD M ((⟨d,op,none⟩,un)::l) s ds Q:=by
 obtain⟨⟨k,s1,h1,⟨⟨m,s',h2,h3⟩⟩⟩⟩:=h;refine⟨⟨max k m,s',?_,h3⟩⟩;have h1':=mD (inv:=M.inv) (jD (eL k m)) _ _ _ h1;have h2':=kL (inv:=M.inv) (jD (eA k m)) _ _ _ _ h2;simp only[fH,fl]at h1';have ht:mr s.s op=some []:=by cases op <;> first|(cases hn;done)|rfl
 have hh:op.bU=true:=by cases op <;> first|(cases hn;done)|rfl
 have hd:∀U,jl [] U=true:=fun U=>rfl
 cases hq:cz (M.call (max k m)) M.inv s.s op with
 | none=>grind
 | some r=>
  rw[hq]at h1';obtain⟨o,e1,e2,e3⟩:=Tk hn hq;simp only[ce.injEq]at h1';simp only[eK,fl,hh,if_true,ht,hd,e3 (fz [] s.s.hp 0) (gR _ _ _)];have hm:gg [] s.s.hp (fz [] s.s.hp 0++[o]) 0=s.s.hp++[o]:=by
   apply c9;intro c;rw[kJ _ _ _ _ _ (by simp[gR])];split
   . grind
   . grind[fu,gR,gR]
  simp only[gF,iq,jN,d8,if_true,hm,de,du,List.length_singleton,gR]<;>grind
def oO (h:ab):AV->Option (List AV×Nat)
 | .str _=>none
 | .sl b off n esz _=>match h.at b with
   | some (.cells l _)=>(cut l off (n*esz)).map (·,n)
   | _=>none
 | v=>gY h v
def oT:List AV->Option (List Int)
 | []=>some []
 | .int .i64 n::r=>match oT r with
   | some l=>some (n::l)
   | none=>none
 | _=>none
def oW:List AV->Option (List (List UInt8))
 | []=>some []
 | .str n::r=>match oW r with
   | some l=>some (n::l)
   | none=>none
 | _=>none
def strs (l:List (List UInt8)):List AV:=arr (fun x=>[.str x]) l
theorem Iz:∀{c:List AV} {l:List Int},oT c=some l->c=ints l
 | [],l,h=>by cases h;rfl
 | v::r,l,h=>by
  unfold oT at h;split at h
  . grind
  . rename_i n r' e;cases e;split at h
    . rename_i l' hl;cases h;rw[Iz hl];rfl
    . cases h
  . cases h
theorem BI:∀l:List Int,oT (ints l)=some l
 | []=>rfl
 | n::l=>by
  have:=BI l;show oT (.int .i64 n::ints l)=_;rw[oT,this]
theorem IA:∀{c:List AV} {l:List (List UInt8)},oW c=some l->c=strs l
 | [],l,h=>by cases h;rfl
 | v::r,l,h=>by
  unfold oW at h;split at h
  . grind
  . rename_i n r' e;cases e;split at h
    . rename_i l' hl;cases h;rw[IA hl];rfl
    . cases h
  . cases h
theorem IB:∀l:List (List UInt8),oW (strs l)=some l
 | []=>rfl
 | n::l=>by
  have:=IB l;show oW (.str n::strs l)=_;rw[oW,this]
def dZ (h:ab)(v:AV):Option (List Int):=match oO h v with
 | some (c,n)=>match oT c with
   | some l=>if l.length=n then some l else none
   | none=>none
 | none=>none
def qM (h:ab)(v:AV):Option (List (List UInt8)):=match oO h v with
 | some (c,n)=>match oW c with
   | some l=>if l.length=n then some l else none
   | none=>none
 | none=>none
theorem IC {α:Type}{f:α->List AV}{l:List α}(hc:oO h v=some (arr f l,l.length)):Sl f h v l:=by
 cases v <;> simp only[oO,gY]at hc <;> try (cases hc;done)
 case ah=>
  simp only[ce.injEq,jg.injEq]at hc;exact .inl ⟨rfl,List.eq_nil_of_length_eq_zero hc.2.symm⟩
 case sl b off len esz cap=>
  split at hc
  . rename_i c e hb;simp only[bZ,jg.injEq]at hc;obtain⟨c',h1,h2,h3⟩:=hc;subst h3;subst h2;exact .inr (.inr ⟨b,off,esz,cap,c,e,rfl,hb,h1⟩)
  grind
 case vs c len cap=>
  simp only[ce.injEq,jg.injEq]at hc;obtain⟨rfl,rfl⟩:=hc;exact .inr (.inl ⟨cap,rfl⟩)
theorem sV {l:List Int}(hi:dZ h v=some l):Sl (fun x=>[.int .i64 x]) h v l:=by
 unfold dZ at hi;split at hi
 . rename_i c n hc;split at hi
   . rename_i l' hl;split at hi
     . rename_i hn;cases hi;subst hn;rw[Iz hl]at hc;exact IC hc
     grind
   grind
 grind
theorem ID {l:List (List UInt8)}(hi:qM h v=some l):Sl (fun x=>[.str x]) h v l:=by
 unfold qM at hi;split at hi
 . rename_i c n hc;split at hi
   . rename_i l' hl;split at hi
     . rename_i hn;cases hi;subst hn;rw[IA hl]at hc;exact IC hc
     grind
   grind
 grind
theorem IE {l:List Int}{cap:Option Nat}:dZ h (.vs (ints l) l.length cap)=some l:=by
 simp only[dZ,oO,gY,BI,if_true]
end Go.Ab
namespace Go.Ab
variable {ars pe:List AV} {h hp:ab} {r:HR} {f:aZ} {args:List aZ} {l:List bz} {s:au} {Q:au->Prop} {g v:AV} {t b:Nat} {lo:List (Nat×AV)} {df wr:List Nat}
variable {M:ay}
def CT (M:ay)(g:AV)(ars:List AV)(h:ab)(r:HR):Prop:=∃n,M.call n g ars h=some r
theorem CT.ext {f:FuncId}{fi ca:List AV}(he:M.ext f (fi++ars++ca) h=some r):CT M (.fn (.func f) fi ca) ars h r:=⟨0,by simp only[iM,he]⟩
theorem CT.run {f:FuncId}{fi ca:List AV}(he:M.ext f (fi++ars++ca) h=none)(hr:bm M f (fi++ars++ca) h r):CT M (.fn (.func f) fi ca) ars h r:=by
 obtain⟨n,hn⟩:=hr;exact⟨n,by simp only[iM,he];exact hn⟩
theorem WO.BJ {d:fN}(hf:s.s.ae f=some g)(ha:s.s.db args=some ars)(hc:CT M g ars s.s.hp r)
 (h:WO M l ⟨{ s.s.put d r.v with hp:=r.h },r.wr++s.wr⟩ Q):WO M (⟨d,.call f args,none⟩::l) s Q:=
 WO.op (WP.call hf ha (by obtain⟨n,hn⟩:=hc;exact⟨⟨n,r,hn,h⟩⟩))
theorem ahW {h':ab}{wr':List Nat}(hf:(St.mk pe lo hp df).ae f=some g)(ha:(St.mk pe lo hp df).db args=some ars)
 (hc:CT M g ars hp ⟨v,h',wr'⟩) (h:WO M l ⟨⟨pe,(t,v)::lo,h',df⟩,wr'++wr⟩ Q):WO M (⟨.l t,.call f args,none⟩::l) ⟨⟨pe,lo,hp,df⟩,wr⟩ Q:=WO.BJ hf ha hc h
theorem WD.BJ {d:fN}{un:List Nat}{l:List (bz×List Nat)}{ds:List cJ}(hf:s.s.ae f=some g)(ha:s.s.db args=some ars)
 (hU:(un.flatMap fun j=>(ds[j]?).elim [] cJ.own)=[]) (he:CT M g ars s.s.hp ⟨v,s.s.hp,[]⟩)
 (h:WD M l ⟨s.s.put d v,s.wr⟩ (ds++[⟨none,[],0,0⟩]) Q):WD M ((⟨d,.call f args,none⟩,un)::l) s ds Q:=by
 obtain⟨⟨m,s',h2,h3⟩⟩:=h.norm (d':=⟨none,[],s.s.hp.length,s.s.hp.length⟩) (by simp[cJ.key,cJ.own]);obtain⟨n,hn⟩:=he;refine⟨⟨max n m,s',?_,h3⟩⟩;have h2':=kL (inv:=M.inv) (jD (eA n m)) _ _ _ _ h2;have hn':=jD (M:=M) (eL n m) _ _ _ _ hn;have hm:mask s.s.hp []=s.s.hp:=rfl;have hcall:cz (M.call (max n m)) M.inv { s.s with hp:=s.s.hp } (.call f args)=some ⟨v,s.s.hp,[]⟩:=by
  simp only[cz,hf,ha];exact hn'
 have hmerge:gg [] s.s.hp s.s.hp 0=s.s.hp:=by
  apply c9;intro c;rw[kJ _ _ _ _ _ (c6 _)];split
  . rfl
  . rfl
 simp only[eK,fl,bI.bU,if_true,mr,hU,hm];rw[hcall];have hp:({ s.s.put d v with hp:=s.s.hp }:St)=s.s.put d v:=by cases d <;> rfl
 grind
theorem ajb {un:List Nat}{l:List (bz×List Nat)}{ds:List cJ}(hf:(St.mk pe lo hp df).ae f=some g)(ha:(St.mk pe lo hp df).db args=some ars)
 (hU:(un.flatMap fun j=>(ds[j]?).elim [] cJ.own)=[]) (he:CT M g ars hp ⟨v,hp,[]⟩)
 (h:WD M l ⟨⟨pe,(t,v)::lo,hp,df⟩,wr⟩ (ds++[⟨none,[],0,0⟩]) Q):WD M ((⟨.l t,.call f args,none⟩,un)::l) ⟨⟨pe,lo,hp,df⟩,wr⟩ ds Q:=WD.BJ hf ha hU he h
theorem BK {f N:Nat}{aY:List Nat}{res:List fO}{body:al}(hft:M.FT f=some ⟨N,aY,res,body⟩)(hN:ars.length<=N)
 (hW:W M body ⟨⟨aY.map (fun t=>(ars[t]?).getD cM),[],h,[]⟩,[]⟩ fun e s=>(e = .normal\/e = .ret)/\s.s.cI=[]/\∃vs,dK s.s res=some vs/\gh (bk vs) h.length s=r):bm M f ars h r:=by
 obtain⟨⟨n,e,s,h1,h2,h3,vs,h4,h5⟩⟩:=hW;refine⟨n,?_⟩;have h1':bK M.ext M.inv M.FT n body ⟨⟨aY.map (fun t=>(ars[t]?).getD cM),[],h,[]⟩,[]⟩=some (e,s):=h1;simp only[iF,hft];rw[if_neg ac];simp only[ay.ev,h1',if_pos h2,h3,mu,h4,h5]
def fK (b:Nat)(wr:List Nat):Prop:=∀x∈wr,x=b
theorem fK.nil:fK b []:=fun _ h=>by cases h
theorem fK.cons (h:fK b wr):fK b (b::wr):=fun x hx=>by
 rcases cP.1 hx with e|e
 . exact e
 . exact h x e
theorem fK.app {v:List Nat}(h':fK b v)(h:fK b wr):fK b (v++wr):=fun x hx=>by
 rcases dc.1 hx with e|e
 . exact h' x e
 . exact h x e
theorem wF {x y:Option bV}:(h.put b x).put b y=h.put b y:=by simp[ab.put]
theorem Tl {c c0:List AV}{e:TypeId}(hb:b<h.length)(hh:s.s.hp=h.put b (some (.cells c e)))(hw:fK b s.wr)(hc:bO c=0) :
 ∃wr,fK b wr/\gh (.aw []) (h.put b (some (.cells c0 e))).length s=⟨.aw [],h.put b (some (.cells c e)),wr⟩:=by
 refine⟨s.wr.filter (· < h.length),fun x hx=>hw x bc,?_⟩;have hl:(h.put b (some (.cells c0 e))).length=h.length:=jM;have ht:tight s.s.hp h.length s.wr=true:=by
  simp only[tight,c5];intro x hx;rw[hw x hx,hh,cQ hb];simp[bV.top,hc]
 have hk:(h.put b (some (.cells c e))).take h.length=h.put b (some (.cells c e)):=dg (by rw[jM];simp);simp only[gh,hl,ht,d8]<;>grind
theorem Tm {α:Type}{f:α->List AV}{l:List α}{e:TypeId}{g N:Nat}{aY:List Nat}{body:al}{P:List α->Prop}(hft:M.FT g=some ⟨N,aY,[],body⟩)(hN:ars.length<=N)(hb:b<h.length)(hf:∀a,bO (f a)=0)
 (hW:W M body ⟨⟨aY.map (fun t=>(ars[t]?).getD cM),[],h.put b (some (.cells (arr f l) e)),[]⟩,[]⟩ fun x s=>(x = .normal\/x = .ret)/\s.s.cI=[]/\∃l',s.s.hp=h.put b (some (.cells (arr f l') e))/\fK b s.wr/\P l') :
 ∃l' wr,fK b wr/\P l'/\bm M g ars (h.put b (some (.cells (arr f l) e))) ⟨.aw [],h.put b (some (.cells (arr f l') e)),wr⟩:=by
 obtain⟨⟨n,x,s,h1,h2,h3,l',h4,h5,h6⟩⟩:=hW;obtain⟨wr,hw,hr⟩:=Tl (c0:=arr f l) hb h4 h5 (oM hf l');refine⟨l',wr,hw,h6,BK hft hN ⟨⟨n,x,s,h1,h2,h3,[],rfl,hr⟩⟩⟩
theorem ajc {x:aZ}{k:IntKind}{a:Int}(hx:(St.mk pe lo hp df).ae x=some (.int k a))(hr:0<=a/\a<18446744073709551616)
 (h:WO M l ⟨⟨pe,(t,.int .u64 a)::lo,hp,df⟩,wr⟩ Q):WO M (⟨.l t,.gW .u64 x,none⟩::l) ⟨⟨pe,lo,hp,df⟩,wr⟩ Q:=
 WO.op (WP.pure (v:=.int .u64 a) rfl (by
  have:IntKind.u64.wrap a=a:=by simp only[IntKind.wrap,IntKind.bits,IntKind.signed];simp;omega
  simp only[bF,hx,ci,nZ,this]) h)
theorem aiL {x:aZ}{k:IntKind}{a:Int}(hx:(St.mk pe lo hp df).ae x=some (.int k a))(hr : -9223372036854775808<=a/\a<9223372036854775808)
 (h:WO M l ⟨⟨pe,(t,.int .i64 a)::lo,hp,df⟩,wr⟩ Q):WO M (⟨.l t,.gW .i64 x,none⟩::l) ⟨⟨pe,lo,hp,df⟩,wr⟩ Q:=
 WO.op (WP.pure (v:=.int .i64 a) rfl (by simp only[bF,hx,ci,nZ,oJ hr]) h)
end Go.Ab
namespace Go.Ab
variable {h:ab}
variable {M:ay}
theorem Tn {v:AV}{s:au}(hh:s.s.hp=h)(hw:s.wr=[]):gh v h.length s=⟨v,h,[]⟩:=by
 have hk:h.take h.length=h:=List.take_length;simp only[gh,hh,hw,tight,gF,d8,List.filter_nil,hk];simp
theorem kd {g N:Nat}{aY:List Nat}{res:List fO}{body:al}{ars:List AV}{v:AV}(hft:M.FT g=some ⟨N,aY,res,body⟩)(hN:ars.length<=N)
 (hW:W M body ⟨⟨aY.map (fun t=>(ars[t]?).getD cM),[],h,[]⟩,[]⟩ fun x s=>(x = .normal\/x = .ret)/\s.s.cI=[]/\s.s.hp=h/\s.wr=[]/\∃vs,dK s.s res=some vs/\bk vs=v):bm M g ars h ⟨v,h,[]⟩:=by
 refine BK hft hN (hW.mono fun x s ⟨h1,h2,h3,h4,vs,h5,h6⟩=>⟨h1,h2,vs,h5,?_⟩);grind[Tn]
theorem BL {b:Nat}{o:bV}(hb:h.at b=some o):h.put b (some o)=h:=by
 have hl:=gS hb;apply c9;intro i;simp only[ab.put,c7];split
 . rename_i e;subst e;unfold ab.at at hb;grind
 . rfl
end Go.Ab
namespace Go.Ab
variable {t b n:Nat} {x:aZ} {l:List bz} {pe:List AV} {lo:List (Nat×AV)} {hp:ab} {df wr:List Nat} {k:IntKind} {Q:au->Prop}
variable {M:ay}
theorem ajC {a:Int}(hx:(St.mk pe lo hp df).ae x=some (.int k a))(hr:0<=a/\a<256)
 (h:WO M l ⟨⟨pe,(t,.int .u8 a)::lo,hp,df⟩,wr⟩ Q):WO M (⟨.l t,.gW .u8 x,none⟩::l) ⟨⟨pe,lo,hp,df⟩,wr⟩ Q:=
 WO.op (WP.pure (v:=.int .u8 a) rfl (by
  have:IntKind.u8.wrap a=a:=by simp only[IntKind.wrap,IntKind.bits,IntKind.signed];simp;omega
  simp only[bF,hx,ci,nZ,this]) h)
theorem ajD {i:aZ}{s:List UInt8}{n:Int}(hx:(St.mk pe lo hp df).ae x=some (.str s))(hy:(St.mk pe lo hp df).ae i=some (.int k n))
 (hb:0<=n/\n<s.length) (h:∀r:Int,0<=r->r<256->WO M l ⟨⟨pe,(t,.int .u8 r)::lo,hp,df⟩,wr⟩ Q):WO M (⟨.l t,.index x i,none⟩::l) ⟨⟨pe,lo,hp,df⟩,wr⟩ Q:=
 aii hx hy hb (h _ ac (by have:=(s[n.toNat]!).toNat_lt;omega))
theorem Tq {h:ab}{g N:Nat}{aY:List Nat}{res:List fO}{body:al}{ars:List AV}{P:AV->Prop}(hft:M.FT g=some ⟨N,aY,res,body⟩)(hN:ars.length<=N)
 (hW:W M body ⟨⟨aY.map (fun t=>(ars[t]?).getD cM),[],h,[]⟩,[]⟩ fun x s=>(x = .normal\/x = .ret)/\s.s.cI=[]/\s.s.hp=h/\s.wr=[]/\∃vs,dK s.s res=some vs/\P (bk vs)):∃v,P v/\bm M g ars h ⟨v,h,[]⟩:=by
 obtain⟨⟨n,x,s,h1,h2,h3,h4,h5,vs,h6,h7⟩⟩:=hW;exact⟨_,h7,kd hft hN ⟨⟨n,x,s,h1,h2,h3,h4,h5,vs,h6,rfl⟩⟩⟩
def sW (b n:Nat)(wr:List Nat):Prop:=∀x∈wr,x=b\/n<=x
theorem sW.only(h:fK b wr):sW b n wr:=fun x hx=>.inl (h x hx)
theorem sW.cons (h:sW b n wr):sW b n (b::wr):=fun x hx=>by
 rcases cP.1 hx with e|e
 . omega
 . exact h x e
theorem iR {f N:Nat}{aY:List Nat}{res:List fO}{body:al}{ars:List AV}{P:AV->ab->Prop}(hft:M.FT f=some ⟨N,aY,res,body⟩)(hN:ars.length<=N)
 (h:W M body ⟨⟨aY.map (fun t=>(ars[t]?).getD cM),[],[],[]⟩,[]⟩ fun e s=>(e = .normal\/e = .ret)/\s.s.cI=[]/\∃vs,dK s.s res=some vs/\P (bk vs) (if (bk vs).top<=0 then [] else s.s.hp)):∃v hh,P v hh/\bm M f ars [] ⟨v,hh,[]⟩:=by
 obtain⟨⟨n,e,s,h1,h2,h3,vs,h4,h5⟩⟩:=h;exact⟨_,_,h5,bX hft hN ⟨⟨n,e,s,h1,h2,h3,vs,h4,rfl,rfl⟩⟩⟩
theorem aiN {o:Nat}{ag:Bool}{c:List AV}{e:TypeId}{v:AV}(hx:(St.mk pe lo hp df).ae x=some (.ptr b o))(hb:hp.at b=some (.cells c e))(hv:partOf (c.drop o) 0 n ag=some v)
 (h:WO M l ⟨⟨pe,(t,v)::lo,hp,df⟩,wr⟩ Q):WO M (⟨.l t,.load n ag x,none⟩::l) ⟨⟨pe,lo,hp,df⟩,wr⟩ Q:=
 aiS hx (show gr hp (.ptr b o)=some (c.drop o) by simp only[gr,hb]) hv h
theorem Tr {n:Int}(h:0<=n/\n<18446744073709551616):IntKind.u64.wrap n=n:=by
 simp only[IntKind.wrap,IntKind.bits,IntKind.signed];grind
theorem ajv {L:Nat}{y:aZ}{a:Int}(hx:(St.mk pe lo hp df).ae x=some (.int .u64 a))(hy:(St.mk pe lo hp df).ae y=some (.int k L))(hL:L<=64)
 (hr:0<=a*2^L/\a*2^L<18446744073709551616) (h:WO M l ⟨⟨pe,(t,.int .u64 (a*2^L))::lo,hp,df⟩,wr⟩ Q):WO M (⟨.l t,.bin .shl x y,none⟩::l) ⟨⟨pe,lo,hp,df⟩,wr⟩ Q:=
 abA (v:=.int .u64 (a*2^L)) (by
  have e:min ((L:Int)).toNat IntKind.u64.bits=L:=by simp only[IntKind.bits];omega
  simp only[bF,hx,hy,dS,e,Tr hr]<;>grind) rfl h
theorem IG {α:Type}{f:α->List AV}(hf:∀a,(f a).all dx=true):∀l:List α,(arr f l).all dx=true
 | []=>rfl
 | a::l=>by
  have:=IG hf l;simp only[arr]at this;simp only[arr,i7,List.all_append,hf a,this,Bool.and_self]
end Go.Ab
namespace Go.Ab
variable {M:ay}
end Go.Ab
namespace Go.Ab
variable {P:Program} {gl:Nat->Option AV}
end Go.Ab
namespace Go.Ab
open Go.ChangeShapes Go.WideShapes Go.RowKit
variable {H:Type} {enc:TypeId×Value->H} {P:Program} {W:World} {base:Nat} {sp:Nat->Bool} {t e:TypeId} {v:Value} {d:DataW H} {ps:List MemPlace}
theorem IH {c:Nat}:dy bare c:=⟨fun b d hb=>by simp[bare]at hb,fun hx=>hx⟩
theorem Ts (ht:P.underlying t=some (.slice e))(he:P.underlying e=some (.int .i64))(hc:P.cellsOf e=1)(hval:iI P W .any base t v)(h:DataW.Trod enc P W 0 sp true t v d ps):∃l:List Int,V bare W (.vs (ints l) l.length none) v:=by
 obtain⟨a0,len0,cap0,rfl⟩:=okWide_slice ht hval;obtain⟨fuel,hf⟩:=h;rcases open_ints ht he hc hf with ⟨hcs,_⟩|⟨a,len,cap,zs,hcs,_,hle,_,hall,_,hcell,_⟩
 . simp only[n3,List.cons.injEq,n4.injEq,and_true]at hcs;obtain⟨rfl,rfl,rfl⟩:=hcs;exact⟨[],.fB ax⟩
 . simp only[n3,List.cons.injEq,n4.injEq,and_true]at hcs;obtain⟨rfl,rfl,rfl⟩:=hcs;have hs:a.spot=none:=by
    simp only[iI,ht,Cell.okWide,Cell.ok,World.has]at hval;exact hval.2.2.2.1
   obtain⟨b,off,spot⟩:=a;simp only at hs;subst hs;have hlen:len0<=zs.length:=by rw[hall];split <;> omega
   have hl:(zs.take len0).length=len0:=by rw[li];omega
   refine⟨zs.take len0,?_⟩;rw[hl];refine .vs b off (fun i=>.int .i64 (zs.getD i 0)) (fun _=>IH) hle ax (fun i hi=>?_) (fun i x hx=>?_)
   . have hi':i<len0:=by
      have:(ints (zs.take len0)).length=len0:=by
       have:=lH (f:=fun x:Int=>[AV.int .i64 x]) (esz:=1) (fun _=>rfl) (zs.take len0);rw[hl,Nat.mul_one]at this;exact this
      omega
     grind[add_plain]
   . have hx':(ints (zs.take len0))[i]? = some x:=hx;have e1:ints (zs.take len0)=(zs.take len0).map fun x=>AV.int .i64 x:=by
      simp only[ints,arr];induction zs.take len0 with
      | nil=>rfl
      | cons y l ih=>grind
     rw[e1,d7,bZ]at hx';obtain⟨z,hz,rfl⟩:=hx';rw[List.getElem?_take]at hz;split at hz
     . rw[show zs.getD i 0=z from by grind];exact .int _ _
     grind
end Go.Ab
namespace Go.Ab
variable {M:ay}
abbrev az:=List UInt8
def dF (x lo hi:Int):Bool:=decide (x<lo) || decide (hi<x)
end Go.Ab
namespace Go.Ab
variable {h:ab} {v:AV} {n:Nat}
variable {M:ay}
structure wH (M:ay)(f:FuncId)(as:List AV)(h:ab)(K:HR->Prop):Prop where
 out:∃r,bm M f as h r/\K r
theorem wH.II {f N:Nat}{aY:List Nat}{res:List fO}{body:al}{ars:List AV}{K:HR->Prop}(hft:M.FT f=some ⟨N,aY,res,body⟩)(hN:ars.length<=N)
 (hW:W M body ⟨⟨aY.map (fun t=>(ars[t]?).getD cM),[],h,[]⟩,[]⟩ fun e s=>(e = .normal\/e = .ret)/\∃s',mu s.s.cI s=some s'/\∃vs,dK s'.s res=some vs/\K (gh (bk vs) h.length s')):wH M f ars h K:=by
 obtain⟨⟨n,e,s,h1,h2,s',h3,vs,h4,h5⟩⟩:=hW;refine⟨_,⟨n,?_⟩,h5⟩;have h1':bK M.ext M.inv M.FT n body ⟨⟨aY.map (fun t=>(ars[t]?).getD cM),[],h,[]⟩,[]⟩=some (e,s):=h1;simp only[iF,hft]<;>grind
theorem Tt {s:au}(hv:v.top<=n)(ht:tight s.s.hp n s.wr=true):gh v n s=⟨v,s.s.hp.take n,s.wr.filter (· < n)⟩:=by
 unfold gh;grind
theorem aiq {t:Nat}{x y:aZ}{l:List bz}{pe:List AV}{lo:List (Nat×AV)}{hp:ab}{df wr:List Nat}{a b:az}{Q:au->Prop}(hx:(St.mk pe lo hp df).ae x=some (.str a))(hy:(St.mk pe lo hp df).ae y=some (.str b))(hr:a.length+b.length<4611686018427387904)
 (h:WO M l ⟨⟨pe,(t,.str (a++b))::lo,hp,df⟩,wr⟩ Q):WO M (⟨.l t,.bin .add x y,none⟩::l) ⟨⟨pe,lo,hp,df⟩,wr⟩ Q:=
 abA (v:=.str (a++b)) (by simp only[bF,hx,hy,dS];grind) rfl h
theorem Tu {J:ab}{s:au}(hh:s.s.hp=h++J)(hw:∀x∈s.wr,h.length<=x)(hv:v.top<=h.length):gh v h.length s=⟨v,h,[]⟩:=by
 have hf:s.wr.filter (· < h.length)=[]:=by
  rw[List.filter_eq_nil_iff];intro x hx;have:=hw x hx;simp;omega
 have ht:tight s.s.hp h.length s.wr=true:=by
  simp only[tight,c5];intro x hx;have:=hw x hx;split <;> simp[this]
 grind[Tt]
theorem nt {g N:Nat}{aY:List Nat}{res:List fO}{body:al}{ars:List AV}(hft:M.FT g=some ⟨N,aY,res,body⟩)(hN:ars.length<=N)(hv:v.top<=h.length)
 (hW:W M body ⟨⟨aY.map (fun t=>(ars[t]?).getD cM),[],h,[]⟩,[]⟩ fun x s=>(x = .normal\/x = .ret)/\s.s.cI=[]/\(∃J,s.s.hp=h++J)/\(∀x∈s.wr,h.length<=x)/\∃vs,dK s.s res=some vs/\bk vs=v):bm M g ars h ⟨v,h,[]⟩:=by
 refine BK hft hN (hW.mono fun x s ⟨h1,h2,⟨J,h3⟩,h4,vs,h5,h6⟩=>⟨h1,h2,vs,h5,?_⟩);grind[Tu]
section
variable {t b j:Nat} {x y:aZ} {l:List bz} {pe:List AV} {lo:List (Nat×AV)} {hp:ab} {df wr:List Nat} {c:List AV} {e:TypeId} {Q:au->Prop}
theorem ajd {ag:Bool}(hx:(St.mk pe lo hp df).ae x=some (.ptr b j))(hb:hp.at b=some (.cells c e))(hv:partOf (c.drop j) 0 n ag=some v)
 (h:WO M l ⟨⟨pe,(t,v)::lo,hp,df⟩,wr⟩ Q):WO M (⟨.l t,.load n ag x,none⟩::l) ⟨⟨pe,lo,hp,df⟩,wr⟩ Q:=
 aev (v:=v) (h':=hp) (w':=[]) (by simp only[cg,hx,ci,gr,hb,hv]) rfl rfl h
theorem aia {new:List AV}(hx:(St.mk pe lo hp df).ae x=some (.ptr b j))(hy:((St.mk pe lo hp df).ae y).bind AV.cells=some new)(hb:hp.at b=some (.cells c e))(hn:new.length=n/\j+n<=c.length/\new.all dx=true){c':List AV}(hc:overwrite c j new=c')
 (h:WO M l ⟨⟨pe,lo,hp.put b (some (.cells c' e)),df⟩,b::wr⟩ Q):WO M (⟨.no,.store n x y,none⟩::l) ⟨⟨pe,lo,hp,df⟩,wr⟩ Q:=by
 subst hc;refine ahX (v:=cM) (h':=hp.put b (some (.cells (overwrite c j new) e))) (w':=[b]) ?_ rfl rfl h;simp only[cg,hx,hy,hb]<;>grind
end
end Go.Ab
namespace Go.Ab
variable {M:ay} {t:Nat} {x y z:aZ} {l:List bz} {pe:List AV} {lo:List (Nat×AV)} {hp:ab} {df wr:List Nat} {s r:az} {k k':IntKind} {a b:Int} {Q:au->Prop}
theorem air (hx:(St.mk pe lo hp df).ae x=some (.str s))(hy:(St.mk pe lo hp df).ae y=some (.int k a))(ha:0<=a/\a<=s.length)(hr:s.drop a.toNat=r)
 (h:WO M l ⟨⟨pe,(t,.str r)::lo,hp,df⟩,wr⟩ Q):WO M (⟨.l t,.slice .str 1 x (some y) none none,none⟩::l) ⟨⟨pe,lo,hp,df⟩,wr⟩ Q:=by
 subst hr;refine abA (v:=.str (s.drop a.toNat)) ?_ rfl h;simp only[bF,hx,St.fg,hy,cD,kD,cH];rw[if_pos ha];grind[dg]
theorem aiz (hx:(St.mk pe lo hp df).ae x=some (.str s))(hy:(St.mk pe lo hp df).ae y=some (.int k a))(ha:0<=a/\a<=s.length)(hr:s.take a.toNat=r)
 (h:WO M l ⟨⟨pe,(t,.str r)::lo,hp,df⟩,wr⟩ Q):WO M (⟨.l t,.slice .str 1 x none (some y) none,none⟩::l) ⟨⟨pe,lo,hp,df⟩,wr⟩ Q:=by
 subst hr;refine abA (v:=.str (s.take a.toNat)) ?_ rfl h;simp only[bF,hx,St.fg,hy,cD,kD,cH]<;>grind
theorem ajE (hx:(St.mk pe lo hp df).ae x=some (.str s))(hy:(St.mk pe lo hp df).ae y=some (.int k a))(hz:(St.mk pe lo hp df).ae z=some (.int k' b))(ha:0<=a/\a<=b/\b<=s.length)(hr:(s.drop a.toNat).take (b.toNat-a.toNat)=r)
 (h:WO M l ⟨⟨pe,(t,.str r)::lo,hp,df⟩,wr⟩ Q):WO M (⟨.l t,.slice .str 1 x (some y) (some z) none,none⟩::l) ⟨⟨pe,lo,hp,df⟩,wr⟩ Q:=by
 subst hr;refine abA (v:=.str ((s.drop a.toNat).take (b.toNat-a.toNat))) ?_ rfl h;have h1:0<=b/\b<=(s.length:Int):=⟨ac,ha.2.2⟩;have h2:0<=a/\a<=(b.toNat:Int):=⟨ha.1,ac⟩;simp only[bF,hx,St.fg,hy,hz,cD,kD,cH]<;>grind
theorem ajF {m:Int}(hx:(St.mk pe lo hp df).ae x=some (.int k a))(hy:(St.mk pe lo hp df).ae y=some (.int k b))(hm:m=a/\a<=b\/m=b/\b<=a)
 (h:WO M l ⟨⟨pe,(t,.int k m)::lo,hp,df⟩,wr⟩ Q):WO M (⟨.l t,.mm false [x,y],none⟩::l) ⟨⟨pe,lo,hp,df⟩,wr⟩ Q:=by
 refine abA (v:=.int k m) ?_ rfl h;simp only[bF,St.db,hx,hy];have e:(if b<a then b else a)=m:=by split <;> omega
 simp[jH,e]
end Go.Ab
namespace Go.Ab
variable {e:TypeId}
variable {M:ay}
theorem aie {u n b off:Nat}{ag:Bool}{x:aZ}{L:List bz}{pe:List AV}{lo:List (Nat×AV)}{hp:ab}{df wr:List Nat}{c:List AV}{v:AV}{Q:au->Prop}(hx:(St.mk pe lo hp df).ae x=some (.ptr b off))(hb:hp.at b=some (.cells c e))(hv:partOf (c.drop off) 0 n ag=some v)
 (h:WO M L ⟨⟨pe,(u,v)::lo,hp,df⟩,wr⟩ Q):WO M (⟨.l u,.load n ag x,none⟩::L) ⟨⟨pe,lo,hp,df⟩,wr⟩ Q:=
 aev (v:=v) (h':=hp) (w':=[]) (by simp only[cg,hx,ci,gr,hb,hv]) rfl rfl h
theorem aik {n:Nat}{x y:aZ}{L:List bz}{pe:List AV}{lo:List (Nat×AV)}{K:ab}{df wr:List Nat}{c c' new:List AV}{Q:au->Prop}(hx:(St.mk pe lo (K++[some (.cells c e)]) df).ae x=some (.ptr K.length 0))(hy:((St.mk pe lo (K++[some (.cells c e)]) df).ae y).bind AV.cells=some new)
 (hn:new.length=n/\n<=c.length/\new.all dx=true) (ho:overwrite c 0 new=c') (h:WO M L ⟨⟨pe,lo,K++[some (.cells c' e)],df⟩,K.length::wr⟩ Q):WO M (⟨.no,.store n x y,none⟩::L) ⟨⟨pe,lo,K++[some (.cells c e)],df⟩,wr⟩ Q:=by
 obtain⟨h1,h2,h3⟩:=hn;refine ahX (v:=cM) (h':=K++[some (.cells c' e)]) (w':=[K.length]) ?_ rfl rfl h;simp only[cg,hx,hy,cj,gD];rw[if_pos ⟨h1,h2,h3⟩,ho];simp[ab.put]
def BM {α:Type}(f:α->List AV)(esz:Nat)(e:TypeId)(hp:ab)(o:AV)(acc:List α)(S:List Nat):Prop:=(acc=[]/\o = .ah)\/∃c,acc≠[]/\c∉S/\o = .sl c 0 acc.length esz none/\hp.at c=some (.cells (arr f acc) e)
theorem BM.fin {α:Type}{f:α->List AV}{esz:Nat}{hp:ab}{o:AV}{acc:List α}{S:List Nat}(h:BM f esz e hp o acc S):BM f esz e (if (bk [o]).top<=0 then [] else hp) o acc S:=by
 rcases h with ⟨h1,rfl⟩|⟨c,h0,h1,rfl,h2⟩
 . exact .inl ⟨h1,rfl⟩
 . refine .inr ⟨c,h0,h1,rfl,?_⟩;rw[if_neg (by simp[bk,AV.top])];exact h2
end Go.Ab
namespace Go.Ab
variable {M:ay} {P:Program} {gl:Nat->Option AV}
open Classical in
noncomputable def qN (R:List AV->ab->HR->Prop):Spec:=fun as h=>if e:∃r,R as h r then some (k9 e) else none
theorem IJ {f:Nat}{R:List AV->ab->HR->Prop}(hR:∀as h r,R as h r->bG P gl ⟨f,as,h,r⟩):bl P gl f (qN R):=by
 intro as h r hq;unfold qN at hq;split at hq<;>grind
theorem IK {R:List AV->ab->HR->Prop}{as:List AV}{h:ab}{r:HR}(hr:R as h r)(hd:∀r',R as h r'->r'=r):qN R as h=some r:=by
 unfold qN;rw[dif_pos ⟨r,hr⟩];grind
section
variable {α:Type} {f:α->List AV} {esz:Nat}
theorem Sl.nu {h:ab}:Sl f h .ah ([]:List α):=.inl ⟨rfl,rfl⟩
theorem Sl.ke (hf:∀a,(f a).length=esz){h:ab}{l:List α}{b n:Nat}{e:TypeId}{cap:Option Nat}(hb:h.at b=some (.cells (arr f l) e))(hn:l.length=n):Sl f h (.sl b 0 n esz cap) l:=by
 subst hn;refine .inr (.inr ⟨b,0,esz,cap,_,e,rfl,hb,?_⟩);have:=mE hf (l:=l) (i:=0) (n:=l.length) ac<;>grind
end
theorem ajG {t:Nat}{ty:iA}{neg:Bool}{x y:aZ}{l:List bz}{pe:List AV}{lo:List (Nat×AV)}{hp:ab}{df wr:List Nat}{a b:AV}{r:Bool}{Q:au->Prop}(hx:(St.mk pe lo hp df).ae x=some a)(hy:(St.mk pe lo hp df).ae y=some b)(he:eZ 100 ty a b=some r)
 (h:WO M l ⟨⟨pe,(t,.bool (if neg then !r else r))::lo,hp,df⟩,wr⟩ Q):WO M (⟨.l t,.eq neg ty x y,none⟩::l) ⟨⟨pe,lo,hp,df⟩,wr⟩ Q:=
 abA (v:=.bool (if neg then !r else r)) (by simp only[bF,hx,hy,he]) rfl h
end Go.Ab
namespace Go.Ab
open Go.ChangeShapes Go.WideShapes Go.RowKit
inductive jE
 | bool
 | int (k:IntKind)
 | str
 | slice (es:List jE)
mutual
def Has:jE->AV->Prop
 | .bool,x=>∃b,x = .bool b
 | .int k,x=>∃n,x = .int k n/\(Lit.int k n).wf=true
 | .str,x=>∃s:List UInt8,x = .str s/\s.length<=maxLen
 | .slice es,x=>∃ls:List (List AV),x = .vs ls.flatten ls.length none/\ls.length<=maxLen/\∀c∈ls,fF es c
def fF:List jE->List AV->Prop
 | [],l=>l=[]
 | t::ts,l=>∃x r,l=x::r/\Has t x/\fF ts r
end
theorem fF.length:∀{ts:List jE} {l:List AV},fF ts l->l.length=ts.length
 | [],l,h=>by simp only[fF]at h;grind
 | t::ts,l,h=>by
  simp only[fF]at h;obtain⟨x,r,rfl,_,h2⟩:=h;simp[h2.length]
theorem fF.append:∀{ts us:List jE} {l m:List AV},fF ts l->fF us m->fF (ts++us) (l++m)
 | [],us,l,m,h,h'=>by simp only[fF]at h;grind
 | t::ts,us,l,m,h,h'=>by
  simp only[fF]at h;obtain⟨x,r,rfl,h1,h2⟩:=h;simp only[ip,fF];exact⟨x,r++m,rfl,h1,h2.append h'⟩
section
variable (P:Program)
def wJ (rec:TypeId->Option (List jE)):List Field->Nat->Option (List jE)
 | [],_=>some []
 | f::fs,o=>if f.offset=o then match rec f.type with
     | some l=>if l.length=P.cellsOf f.type then (wJ rec fs (o+l.length)).map (l ++ ·) else none
     | none=>none
   else none
def nw:Nat->TypeId->Option (List jE)
 | 0,_=>none
 | n+1,t=>match P.underlying t with
   | some .bool=>some [.bool]
   | some (.int k)=>some [.int k]
   | some .string=>some [.str]
   | some (.slice e)=>match nw n e with
     | some (c::r)=>if (c::r).length=P.cellsOf e then some [.slice (c::r)] else none
     | _=>none
   | some (.struct fs)=>match wJ P (nw n) fs.toList 0 with
     | some l=>if l.length=P.cellsOf t then some l else none
     | none=>none
   | some (.array m e)=>match nw n e with
     | some l=>if l.length=P.cellsOf e/\(fo m l).flatten.length=P.cellsOf t then some (fo m l).flatten else none
     | none=>none
   | _=>none
end
variable {H:Type} {enc:TypeId×Value->H} {P:Program} {W:World}
def BN (H:Type)(enc:TypeId×Value->H)(P:Program)(W:World)(t:TypeId)(l:List jE):Prop:=
 ∀(fuel:Nat) (cs:List Value) (x:DataW H×List MemPlace),DataW.trod enc P W 0 (fun _=>true) true fuel t cs=some x->∃xs,fF l xs/\VL bare W xs cs
theorem IL (rec:TypeId->Option (List jE))(hrec:∀t l,rec t=some l->BN H enc P W t l){cs:List Value}:∀(fs:List Field) (o:Nat) (l:List jE),wJ P rec fs o=some l->o<=cs.length ->
 (∀(i:Nat) (f:Field),fs[i]? = some f->∃(n:Nat) (x:DataW H×List MemPlace),DataW.trod enc P W 0 (fun _=>true) true n f.type ((cs.drop f.offset).take (P.cellsOf f.type))=some x) ->
 ∃xs,fF l xs/\VL bare W xs ((cs.drop o).take l.length)
 | [],o,l,h,_,_=>by
  cases h;exact⟨[],rfl,by simpa using VL.nil⟩
 | f::fs,o,l,h,ho,hf=>by
  simp only[wJ]at h;split at h
  . rename_i hoff;split at h
    . rename_i l1 hl1;split at h
      . rename_i hlen;rw[bZ]at h;obtain⟨l2,hl2,rfl⟩:=h;obtain⟨n,x,hx⟩:=hf 0 f rfl;rw[hoff,←hlen]at hx;obtain⟨xs1,g1,g2⟩:=hrec _ _ hl1 _ _ _ hx;have e1:((cs.drop o).take l1.length).length=l1.length:=by rw[←g2.1,g1.length]
        have ho':o+l1.length<=cs.length:=by simp at e1;omega
        obtain⟨xs2,g3,g4⟩:=IL rec hrec fs (o+l1.length) l2 hl2 ho' (fun i f hi=>hf (i+1) f hi);refine⟨xs1++xs2,g1.append g3,?_⟩;have e2:(cs.drop o).take (l1++l2).length=(cs.drop o).take l1.length++(cs.drop (o+l1.length)).take l2.length:=by
         rw[du,nk,m8]
        rw[e2];exact g2.append g4
      . cases h
    . cases h
  . cases h
theorem IM (l:List jE){e:TypeId}(he:BN H enc P W e l){cs:List Value}:∀(m o:Nat),o+m*l.length<=cs.length ->
 (∀i,i<m->∃(n:Nat) (x:DataW H×List MemPlace),DataW.trod enc P W 0 (fun _=>true) true n e ((cs.drop (o+i*l.length)).take l.length)=some x) ->
 ∃xs,fF (fo m l).flatten xs/\VL bare W xs ((cs.drop o).take (m*l.length))
 | 0,o,_,_=>⟨[],rfl,by simpa using VL.nil⟩
 | m+1,o,ho,h=>by
  obtain⟨n,x,hx⟩:=h 0 ac;rw[Nat.zero_mul,j7]at hx;obtain⟨xs1,g1,g2⟩:=he _ _ _ hx;have e0:(m+1)*l.length=l.length+m*l.length:=by rw[mp];omega
  obtain⟨xs2,g3,g4⟩:=IM (cs:=cs) l he m (o+l.length) ac bc;refine⟨xs1++xs2,?_,?_⟩
  . rw[j4,i8];exact g1.append g3
  . rw[e0,nk,m8];exact g2.append g4
theorem IN {n:Nat}:∀{ls:List (List AV)} {j:Nat} {x:AV},0<n->(∀c∈ls,c.length=n)->ls.flatten[j]? = some x->∃c,ls[j/n]? = some c/\c[j%n]? = some x
 | [],j,x,_,_,h=>by simp at h
 | a::ls,j,x,hn,hl,h=>by
  have ha:a.length=n:=hl a ax;rw[i8]at h;rcases bA j n with hj|hj
  . rw[cZ ac]at h;refine⟨a,?_,?_⟩
    . rw[Nat.div_eq_of_lt hj];rfl
    . rw[Nat.mod_eq_of_lt hj];exact h
  . rw[fu ac,ha]at h;obtain⟨c,h1,h2⟩:=IN (j:=j-n) hn bc h;have e1:j/n=(j-n)/n+1:=by
     rw[←Nat.add_div_right _ hn,Nat.sub_add_cancel hj]
    have e2:j%n=(j-n)%n:=by
     rw[←Nat.mod_eq_sub_mod hj]
    grind
theorem IP {n:Nat}:∀{ls:List (List AV)},(∀c∈ls,c.length=n)->ls.flatten.length=ls.length*n
 | [],_=>by simp
 | a::ls,h=>by
  rw[i8,du,h a ax,IP (fun c hc=>h c (by simp[hc])),f6,mp];omega
theorem wK:∀(n:Nat) (t:TypeId) (l:List jE),nw P n t=some l->BN H enc P W t l
 | 0,t,l,h=>by cases h
 | n+1,t,l,h=>by
  intro fuel cs x hx;unfold nw at h;split at h
  . rename_i hu;cases h;obtain⟨b,rfl,_⟩:=DataW.trod_bool hu hx;exact⟨[.bool b],by simp[fF,Has],.cons (.bool b) .nil⟩
  . rename_i k hu;cases h;obtain⟨z,rfl,_,hw⟩:=DataW.trod_int hu hx;refine⟨[.int k z],?_,.cons (.int k z) .nil⟩;simp only[fF,Has];exact⟨_,[],rfl,⟨z,rfl,hw⟩,rfl⟩
  . rename_i hu;cases h;obtain⟨z,rfl,_,hw⟩:=DataW.trod_string hu hx;refine⟨[.str z.data.toList],?_,.cons (.Az z) .nil⟩;simp only[fF,Has];have e:z.data.toList.length=z.size:=Array.length_toList;exact⟨_,[],rfl,⟨_,rfl,ac⟩,rfl⟩
  . rename_i e hu;split at h
    . rename_i c r hc;split at h
      . rename_i hlen;cases h;have he:=wK n e (c::r) hc;rcases Go.Deep.open_slice hu hx with ⟨rfl,_⟩|⟨a,len,cap,m,k,D,Pl,rfl,_,hle,hcap,hm,_,hall⟩
        . refine⟨[.vs [] 0 none],?_,.cons (.fB ax) .nil⟩;simp only[fF,Has];exact⟨_,[],rfl,⟨[],rfl,j3 _,ax⟩,rfl⟩
        . have hm':m=cap:=by simpa using hm
          subst hm';by_cases h0:m=0
          . subst h0;obtain rfl:len=0:=by omega
            refine⟨[.vs [] 0 none],?_,.cons (.gA a ax) .nil⟩;simp only[fF,Has];exact⟨_,[],rfl,⟨[],rfl,j3 _,ax⟩,rfl⟩
          . rw[←hlen]at hall;have hn0:0<(c::r).length:=by simp
            generalize hes:(c::r)=es at *
            have hsp:a.spot=none:=by
             obtain⟨cs',h1,_⟩:=hall 0 ac;obtain⟨_,hl3,hc3⟩:=kw h1;have h5:=hc3 0 ac;rw[bj ac]at h5;have:=World.cell?_spot h5;simpa[Addr.add] using this
            obtain⟨b,off,spot⟩:=a;simp only at hsp;subst hsp;have hex:∀i,i<len->∃cx:List Value×List AV,W.cells? 0 ((Addr.mk b off none).add (i*es.length)) es.length=some cx.1/\fF es cx.2/\VL bare W cx.2 cx.1:=fun i hi=>by
             obtain⟨cs',h1,h2⟩:=hall i ac;obtain⟨xs,h3,h4⟩:=he _ _ _ h2;exact⟨(cs',xs),h1,h3,h4⟩
            obtain⟨f,hf⟩:=Go.Deep.choose_lt (α:=List Value×List AV) hex;have hL:∀c∈(m9 len).map (fun i=>(f i).2),fF es c:=bc;have hLl:∀c∈(m9 len).map (fun i=>(f i).2),c.length=es.length:=fun c hc=>(hL c hc).length
            refine⟨[.vs ((m9 len).map (fun i=>(f i).2)).flatten len none],?_,.cons ?_ .nil⟩
            . simp only[fF,Has];exact⟨_,[],rfl,⟨_,ax,bc,hL⟩,rfl⟩
            . have hfl:=IP hLl;rw[m6,List.length_range]at hfl;have hdiv:∀i,i<len*es.length->i/es.length<len:=fun i hi=>(Nat.div_lt_iff_lt_mul hn0).2 hi
              refine .vs b off (fun j=>((f (j/es.length)).1[j%es.length]?).getD (.bool false)) (fun _=>IH) hle ax (fun j hj=>?_) (fun j x hx=>?_)
              . rw[hfl]at hj;obtain⟨h1,_,h3⟩:=hf _ (hdiv j hj);obtain⟨_,hl3,hc3⟩:=kw h1;have hmod:=Nat.mod_lt j hn0;have:=hc3 (j%es.length) ac;rw[add_plain,add_plain]at this;have e:off+j=off+j/es.length*es.length+j%es.length:=by
                 have:=Nat.div_add_mod j es.length;rw[Nat.mul_comm]at this;omega
                rw[e,this,bj ac];rfl
              . obtain⟨c',h1,h2⟩:=IN hn0 hLl hx;have hlt:j<len*es.length:=by
                 rw[←hfl];exact(be.1 hx).1
                have hd:=hdiv j hlt;rw[d7,List.getElem?_range hd,cD]at h1;cases h1;obtain⟨g1,g2,g3⟩:=hf _ hd;have hmod:=Nat.mod_lt j hn0;have hl3:j%es.length<(f (j/es.length)).1.length:=by rw[←g3.1,g2.length];exact hmod
                rw[bj hl3];exact g3.2 _ _ _ h2 (bj hl3)
      . cases h
    . cases h
  . rename_i fs hu;split at h
    . rename_i l' hl';split at h
      . rename_i hlen;cases h;obtain⟨xs,k,_,_,hcl,hxl,hall⟩:=DataW.trod_struct hu hx;have:=IL (H:=H) (enc:=enc) (W:=W) (cs:=cs) (nw P n) (fun t l ht=>wK n t l ht) fs.toList 0 _ hl' (j3 _) (fun i f hi=>by
         grind)
        grind
      . cases h
    . cases h
  . rename_i m e hu;split at h
    . rename_i l' hl';split at h
      . rename_i hlen;cases h;obtain⟨h1,h2⟩:=hlen;obtain⟨xs,k,_,_,hcl,hxl,hall⟩:=DataW.trod_array hu hx;have e2:m*l'.length=cs.length:=by rw[hcl,←h2];simp
        have:=IM (H:=H) (enc:=enc) (W:=W) (cs:=cs) l' (wK n e l' hl') m 0 ac (fun i hi=>by
         grind)
        grind
      . cases h
    . cases h
  . cases h
theorem Tw {n:Nat}{t:TypeId}{l:List jE}{v:Value}{d:DataW H}{ps:List MemPlace}{cs:Array Value}(hc:nw P n t=some l)(hv:v = .agg cs)(h:DataW.Trod enc P W 0 (fun _=>true) true t v d ps):∃xs,fF l xs/\V bare W (.agg xs) v:=by
 subst hv;obtain⟨fuel,hf⟩:=h;obtain⟨xs,h1,h2⟩:=wK n t _ hc _ _ _ hf;refine⟨xs,h1,?_⟩;have:=V.agg (ρ:=bare) (w:=W) h2.1 h2.2;have e:(Value.agg cs).cells.toList.toArray=cs:=by
  show cs.toList.toArray=cs;simp
 grind
def BO (P:Program)(t:TypeId):Bool:=match P.underlying t with
 | some (.struct _)=>true
 | some (.array _ _)=>true
 | _=>false
theorem Tx {w:World}{r:Reach}{base:Nat}{t:TypeId}{v:Value}(hr:BO P t=true)(h:iI P w r base t v):∃cs,v = .agg cs:=by
 unfold BO at hr;split at hr
 . rename_i fs hu;simp only[iI,hu]at h;grind
 . rename_i n e hu;simp only[iI,hu]at h;grind
 grind
end Go.Ab
