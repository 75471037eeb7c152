/-
  Own work: a call of a function value, what is asked of it, and one operation of a region walked.
-/
import Derived.Test.YtmngppcmhfhgaaaGreatDoorLib0
import Derived.RangeFuncLeaves
import Derived.Laws.Externs
import Derived.WalkKit
import Derived.Carry
import Derived.OpenShut
import Derived.ChangeSame
import Derived.Laws.RangeString
import Derived.Lib.DecodeN
import Derived.Deep.Slices
import Derived.Deep.Strs
open Array renaming getD_eq_getD_getElem?→bN,getElem?_eq_some_iff→gu,replicate→iM,toArray_toList→iQ,getD→i7,toList_map→j2
open Bool renaming and_eq_true→aY,false_eq_true→bA,eq_false_iff→cZ,and_true→c8,true_or→ix
open Classical renaming em→jz,choose→j4
open List renaming getElem?_eq_some_iff→aL,getElem?_eq_getElem→aR,mem_cons→b6,getElem?_append_left→b8,getElem?_set→ce,ext_getElem?→ci,all_eq_true→ck,length_append→cn,mem_append→cP,nil_append→cQ,getElem?_map→c9,replicate→dw,getElem?_append_right→dK,length_cons→d6,length_nil→d7,getElem?_cons_succ→d9,take_of_length_le→ew,all_nil→fu,getElem?_eq_none→fW,any_eq_true→f6,cons_append→f7,isEmpty_nil→f8,getElem?_mapIdx→f9,mem_singleton→gc,drop_eq_getElem_cons→gF,flatMap_cons→gR,flatten_cons→gT,isEmpty_iff→g9,getElem?_append→iX,replicate_succ→i6,getElem?_inj→i8,lookup_cons→j3,foldl_cons→j7,length_map→j8,mapM_cons→j9,drop_drop→ki,range→kn,all_cons→kw,take_add→k9
open Nat renaming lt_or_ge→ba,le_refl→b9,beq→c0,le_max_right→c6,le_max_left→c7,lt_of_lt_of_le→d8,eq_of_beq_eq_true→fX,add_sub_cancel_left→hJ,zero_add→hZ,beq_eq→ip,strongRecOn→iK,zero_le→i5,add_zero→i9,lt_trichotomy→jr,add_mul→j6
open Option renaming map_eq_some_iff→be,some→bI,bind_some→bP,map_some→bW
open Prod renaming mk→ii
open Go.Result renaming andThen_ok→b7
open Go.Sem renaming run_bind→cT,run_pure→dL
open Go.Value renaming okWide→j1,iface→j5
open Go.World renaming cells?_some→j0,cell?→lc
set_option maxHeartbeats 8000000
set_option maxRecDepth 20000
namespace Go.Ab
variable {P:Program} {gl:Nat->Option AV} {ρ:aO} {w:World} {h:ae} {C:Cx} {s:St} {a:Act}
def FR (ro:Option Nat):Fence:={ fn:=fun _=>True,depth:=none,alive:=false,round:=ro }
def jH (P:Program)(nx:Next)(w1:World)(R:Value->World->Prop):Prop:=
 match nx with
 | .value v=>R v w1
 | .enter f args=>CallsIn Fence.wide 0 P f args w1 fun
   | .returned v,w'=>R v w'
   | _,_=>False
 | .round l f tmps as bd=>RoundIn Fence.wide 0 P l f tmps as bd w1 fun
   | .returned v,w'=>R v w'
   | _,_=>False
 | _=>False
def nG (g':Value)(as':Array Value):Sem Next:=do
 let d ←Deferred.ofValue g' as'
 invoke d.target d.args
def fO (h:ae)(r:HR):Prop:=h.length<=r.h.length/\∀b,b<h.length->b∉r.wr->r.h[b]? = h[b]?
structure mD (P:Program)(gl:Nat->Option AV)(call:eC):Prop where
 wr:∀g as h r,call g as h=some r->fO h r
 ok:∀g as h r,call g as h=some r->∀ρ w g' (as':List Value),Mem P gl ρ h w->V ρ w g g'->VL ρ w as as' ->
  ∃nx w1,(nG g' as'.toArray).run P w = .ok nx w1/\jH P nx w1 fun v w'=>fo P gl ρ h w r v w'
theorem Gt {ro:Option Nat}{o:Oper}{a:Act}{next:Act->World->Prop}{Q:Exit->Act->World->Prop}{nx:Next}{w1:World}{R:Value->World->Prop}
 (h:jH P nx w1 R) (hn:∀v w',R v w'->next (a.put o.dst v) w'):o.uponIn (FR ro) 0 P a next Q (.ok nx w1):=by
 cases nx <;> simp only[jH]at h
 case value v=>exact hn _ _ h
 case enter f args=>
  refine⟨fun hd=>(by cases hd),CallsIn.mono (F:=Fence.wide) (n:=0) h ?_⟩<;>grind
 case round l f tmps as bd=>
  refine⟨fun hd=>(by cases hd),RoundIn.mono (F:=Fence.wide) (n:=0) h ?_⟩<;>grind
theorem Qb {t:TypeId}{name:String}{f:FuncId}(h:fD P t name=some f)(n:Nat)(v:Value):(method (n+1) t v name).run P w = .ok (f,v) w:=by
 unfold fD at h;split at h
 . rename_i i u hi hu;split at h
   . rename_i m hm;rw[Array.find?_toList]at hm;split at h
     . rename_i f' ptr hf hp;have hp':m.path.isEmpty=true:=by
        cases hq:m.path with|mk l=>grind
       unfold method;simp only[cT,uf hi,b7,hm,hp,follow,dL,hf];split at h
       . rename_i e;cases h;simp[receiverAt,cw hu,Place.get]
       . cases h
       . rename_i hne;cases h;unfold receiverAt;cases u <;> first|(exact absurd rfl (hne _))|simp[cw hu,Place.get]
       . cases h
     . cases h
   . cases h
 . cases h
theorem Qc (n:Nat):∃k,n+Made.depth=k+1:=by
 have:0<Made.depth:=by decide
 exact⟨n+Made.depth-1,ac⟩
theorem Gu (f:FuncId)(args:Array Value)(R:Value->World->Prop):(∃nx w1,(nG (.func (.func f) #[] #[]) args).run P w = .ok nx w1/\jH P nx w1 R)->∃nx w1,(callFunc f args).run P w = .ok nx w1/\jH P nx w1 R:=by
 rintro⟨nx,w1,h1,h2⟩;refine⟨nx,w1,?_,h2⟩;simpa[nG,Deferred.ofValue,invoke] using h1
theorem Gv {call:eC}(hcall:mD C.P C.gl call)(r:Rel C ρ s a w){o:Oper}{io:bx}(hc:jm C o=some io){q:HR}(hq:cm call (fD C.P) s io=some q){ro:Option Nat}
 {next:Act->World->Prop} {Q:Exit->Act->World->Prop} (hn:∀v' w',fo C.P C.gl ρ s.hp w q v' w'->next (a.put o.dst v') w'):o.wpIn (FR ro) 0 C.P a w next Q:=by
 refine⟨fun _ _=>trivial,?_⟩;have hnd:∀c,o.op≠.defer c:=by
  intro c hd;unfold jm at hc;rw[hd]at hc;cases hc
 rw[Oper.semAt_eq _ _ _ hnd];by_cases hcl:(∃f args,io = .call f args)\/∃x name args,io = .invoke x name args
 . obtain⟨dst,op,ty,pos,af,gd⟩:=o;cases op
   case call c=>
    obtain⟨callee,args,ats⟩:=c;cases callee with
    | value f=>
     simp only[jm]at hc;split at hc
     . rename_i f' as' h1 h2;cases hc;simp only[cm]at hq;split at hq
       . rename_i g as h3 h4;obtain⟨nx,w1,h5,h6⟩:=hcall.ok _ _ _ _ hq ρ w _ _ r.mem (r.ah h1 h3) (r.cX h2 h4);have he:(execOp a.eval ⟨dst,.call ⟨.value f,args,ats⟩,ty,pos,af,gd⟩).run C.P w = .ok nx w1:=by
          have e2:args.map a.eval=(args.toList.map a.eval).toArray:=by rw[←j2,iQ]
          simp only[execOp,resolve,e2];exact h5
         grind[Gt]
       grind
     grind
    | invoke x name=>
     simp only[jm]at hc;split at hc
     . rename_i x' as' h1 h2;cases hc;simp only[cm]at hq;split at hq
       . rename_i t v as h3 h4;split at hq
         . rename_i f hf;have e1:=r.ah h1 h3;generalize hxv:a.eval x=xv at e1;cases e1 with
           | @iface _ _ v' hv=>
            have e2:args.map a.eval=(args.toList.map a.eval).toArray:=by rw[←j2,iQ]
            obtain⟨nx,w1,h5,h6⟩:=hcall.ok _ _ _ _ hq ρ w (.func (.func f) #[] #[]) (v'::args.toList.map a.eval) r.mem (.fn (fi':=[]) (ca':=[]) am rfl rfl am am) (.cons hv (r.cX h2 h4));obtain⟨nx',w1',h7,h8⟩:=Gu f _ _ ⟨nx,w1,h5,h6⟩;have he:(execOp a.eval ⟨dst,.call ⟨.invoke x name,args,ats⟩,ty,pos,af,gd⟩).run C.P w = .ok nx' w1':=by
             obtain⟨k,hk⟩:=Qc C.P.types.size;have hm:=Qb (P:=C.P) (w:=w) hf k v';rw[←hk]at hm;have e3:(#[v']++(args.toList.map a.eval).toArray:Array Value)=(v'::args.toList.map a.eval).toArray:=by simp
             have e4:((#[j5 t v']++(args.toList.map a.eval).toArray:Array Value)).extract 1 (#[j5 t v']++(args.toList.map a.eval).toArray).size=(args.toList.map a.eval).toArray:=by
              simp;exact ew am
             have e5:(#[j5 t v']++(args.toList.map a.eval).toArray:Array Value)[0]? = some (.iface t v'):=by simp
             simp only[execOp,resolve,e2,hxv,cT,dL,b7,invoke];rw[e4,e5];simp only[callMethod,cT,run_program,b7,hm,e3];exact h7
            grind[Gt]
         grind
       grind
     grind
    | builtin b=>
     exfalso;simp only[jm]at hc<;>grind
   case makeMap t res=>
    exfalso;cases res with
    | some _=>cases hc
    | none=>cases hc;grind
   case next x st=>
    exfalso;cases st with
    | false=>cases hc
    | true=>
     simp only[jm,be]at hc<;>grind
   all_goals
    exfalso;simp only[jm]at hc;repeat' (first|(cases hc;done)|split at hc)
    all_goals first
     | (cases hc;rcases hcl with ⟨_,_,h⟩|⟨_,_,_,h⟩ <;> cases h;done)
     | (simp only[be]at hc;obtain⟨_,_,rfl⟩:=hc;rcases hcl with ⟨_,_,h⟩|⟨_,_,_,h⟩ <;> cases h)
 . have hq':(if io.bT then cg s io s.hp else (br s io).map fun v=>⟨v,s.hp,[]⟩)=some q:=by
    cases io <;> first|exact hq|(exfalso;exact hcl (.inl ⟨_,_,rfl⟩))|grind
   split at hq'
   . rename_i hh;obtain⟨v',w',h1,h2⟩:=Qa r hc hh hq';rcases h1 with h1|⟨h1,rfl⟩
     . rw[h1];exact hn _ _ h2
     . rw[h1];exact hn _ _ h2
   . rename_i hh;simp only[be]at hq';obtain⟨v,h1,rfl⟩:=hq';obtain⟨v',h2,h3⟩:=Pj r hc au h1;rw[h2];exact hn _ _ (iJ r.mem h3)
theorem nH {x:Array Value}{t u:Nat}{v d:Value}:(x.setIfInBounds t v).getD u d=if u=t/\t<x.size then v else x.getD u d:=by
 simp only[bN,Array.getElem?_setIfInBounds]<;>grind
theorem Ac {er:ER C ρ w s.pe s.lo a.tmps}{dst:Option Tmp}{d:fC}(hd:kE C dst=some d){x:AV}{v:Value}(hv:V ρ w x v)(h:ae) :
 ER C ρ w ({ s.put d x with hp:=h }:St).pe ({ s.put d x with hp:=h }:St).lo (a.put dst v).tmps:=by
 cases dst with
 | none=>cases hd;exact er
 | some t=>
  simp only[kE]at hd;split at hd
  . rename_i hlt;split at hd
    . rename_i i hi;cases hd;have hti:=ud hi;refine⟨by simp[Act.put,er.size],er.nodup,er.lt,by simpa[St.put] using er.kG,fun j y u h1 h2=>?_,fun u y h1=>?_⟩
      . simp only[St.put,ce]at h1;simp only[Act.put,nH];by_cases hij:i=j
        . subst hij;rw[if_pos rfl]at h1;rw[hti]at h2;cases h2;split at h1
          . cases h1;rw[if_pos ⟨rfl,by rw[er.size];exact hlt⟩];exact hv
          grind
        . rw[if_neg hij]at h1;have:u≠t:=fun e=>by
           subst e;exact hij ((i8 (aL.1 hti).1 er.nodup).1 au)
          rw[if_neg ac];exact er.pe j y u h1 h2
      . simp only[St.put]at h1;obtain⟨g1,g2,g3⟩:=er.lo u y h1;refine⟨g1,g2,?_⟩;simp only[Act.put,nH]<;>grind
    . rename_i hi;cases hd;have hnt:=ue hi;refine⟨by simp[Act.put,er.size],er.nodup,er.lt,by simpa[St.put] using er.kG,fun j y u h1 h2=>?_,fun u y h1=>?_⟩
      . simp only[St.put]at h1;simp only[Act.put,nH];have:u≠t:=au;rw[if_neg ac];exact er.pe j y u h1 h2
      . simp only[St.put,j3]at h1;simp only[Act.put,nH];split at h1
        . rename_i e;simp only[beq_iff_eq]at e;subst e;cases h1;exact⟨hlt,hnt,by rw[if_pos ⟨rfl,by rw[er.size];exact hlt⟩];exact hv⟩
        . rename_i e;simp only[beq_eq_false_iff_ne]at e;obtain⟨g1,g2,g3⟩:=er.lo u y h1<;>grind
  grind
theorem Ad (r:Rel C ρ s a w){ops:Array Oper}{o:Oper}{g:Option (aS×Bool)}(hg:tY C ops.toList o.guard=some g){b:Bool}(hb:fa s g=some b):Region.wanted o (yielded ops a.tmps)=b:=by
 unfold Region.wanted;cases ho:o.guard with
 | none=>rw[ho]at hg;cases hg;cases hb;rfl
 | some jw=>
  obtain⟨j,want⟩:=jw;rw[ho]at hg;simp only[tY]at hg;split at hg
  . rename_i oj hj;split at hg
    . rename_i t ht;simp only[be]at hg;obtain⟨y,hy,rfl⟩:=hg;simp only[fa]at hb;have hj':ops[j]? = some oj:=by simpa using hj
      have key:∀v,s.ah y=some v->V ρ w v (a.tmps.getD t undef):=fun v hv=>r.ah hy hv
      simp only[yielded,hj',bP,ht];split at hb
      . rename_i c hc;have:=key _ hc;cases hb;have e:=this.mu;rw[bN]at e;cases hq:a.tmps[t]? with
        | none=>rw[hq]at e;simp[undef]at e
        | some z=>grind
      . rename_i l hl;have:=key _ hl;cases hb;obtain⟨m,e,_⟩:=this.FP;rw[bN]at e;grind
      grind
    grind
  grind
end Go.Ab
namespace Go.Ab
variable {s:St}
variable {h:ae}
theorem pG (v:AV):fO h ⟨v,h,[]⟩:=⟨b9 _,fun _ _ _=>rfl⟩
theorem Ae (v:AV)(l:ae)(wr:List Nat):fO h ⟨v,h++l,wr⟩:=⟨am,fun b hb _=>b8 hb⟩
theorem Gw (v:AV)(b:Nat)(o:Option cd):fO h ⟨v,h.put b o,[b]⟩:=by
 refine⟨by simp[ae.put],fun b' _ hn=>?_⟩;simp only[gc]at hn;exact mr hn
theorem Gx (v:AV)(b:Nat)(o:Option cd)(l:ae):fO h ⟨v,h.put b o++l,[b]⟩:=by
 refine⟨by simp[ae.put],fun b' hb hn=>?_⟩;simp only[gc]at hn;rw[b8 (by simpa[ae.put] using hb)];exact mr hn
theorem Qd {elem:TypeId}{esz bytes:Nat}{x y:AV}{q:HR}(hq:lf elem esz bytes h x y=some q):fO h q:=by
 unfold lf at hq;repeat' (first|(cases hq;done)|split at hq)
 all_goals (cases hq;first|exact pG _|exact Ae _ _ _|exact Gw _ _ _|grind[Gx])
theorem Qe {io:bx}{q:HR}(hq:cg s io h=some q):fO h q:=by
 cases io <;> simp only[cg]at hq;all_goals first|(cases hq;done)|skip
 all_goals repeat' (first|(cases hq;done)|exact Qd hq|split at hq)
 all_goals (cases hq;first|exact pG _|exact Ae _ _ _|exact Gw _ _ _|exact Gx _ _ _ _)
theorem Af {call:eC}{inv:fg}(hcall:∀g as h r,call g as h=some r->fO h r){s:St}{io:bx}{q:HR}(hq:cm call inv s io=some q):fO s.hp q:=by
 unfold cm at hq;grind[Qe,be,pG]
theorem uq {s s':St}:∀{ps:List (Nat×Nat×aS)},(∀x∈tT ps,s.ah x=s'.ah x)->s.parts ps=s'.parts ps
 | [],_=>rfl
 | (o,n,x)::r,h=>by
  simp only[tT,b6,forall_eq_or_imp]at h;simp only[St.parts,h.1,uq h.2]
theorem nI {s s':St}:∀{xs:List aS},(∀x∈xs,s.ah x=s'.ah x)->s.cX xs=s'.cX xs
 | [],_=>rfl
 | x::r,h=>by
  simp only[b6,forall_eq_or_imp]at h;simp only[St.cX,h.1,nI h.2]
theorem rA {s':St}{x:Option aS}(h:∀y∈x.toList,s.ah y=s'.ah y):s.eK x=s'.eK x:=by
 cases x with
 | none=>rfl
 | some y=>simp only[St.eK,h y am]
theorem Gy {call:eC}{inv:fg}{s':St}{io:bx}(hh:s.hp=s'.hp)(h:∀x∈io.gU,s.ah x=s'.ah x):cm call inv s io=cm call inv s' io:=by
 cases io
 case slice k esz x lo hi mx=>
  simp only[bx.gU,b6,cP,forall_eq_or_imp]at h;have h1:=h.1;have h2:s.eK lo=s'.eK lo:=rA au;have h3:s.eK hi=s'.eK hi:=rA au;have h4:s.eK mx=s'.eK mx:=rA au;simp only[cm,bx.bT,br,bA,if_false,hh,h1,h2,h3,h4]
 case pk n esz x lo hi=>
  simp only[bx.gU,b6,cP,forall_eq_or_imp]at h;have h1:=h.1;have h2:s.eK lo=s'.eK lo:=rA au;have h3:s.eK hi=s'.eK hi:=rA au;simp only[cm,bx.bT,cg,if_true,hh,h1,h2,h3]
 case tO f fi ca=>
  simp only[bx.gU,cP]at h;have h1:s.cX fi=s'.cX fi:=nI au;have h2:s.cX ca=s'.cX ca:=nI au;simp only[cm,bx.bT,br,bA,if_false,hh,h1,h2]
 case build zero ps=>
  have h1:s.parts ps=s'.parts ps:=uq h;simp only[cm,bx.bT,br,bA,if_false,hh,h1]
 case eo elem len esz zero ps=>
  have h1:s.parts ps=s'.parts ps:=uq h;simp only[cm,bx.bT,cg,if_true,hh,h1]
 case mm mx xs=>
  have h1:s.cX xs=s'.cX xs:=nI h;simp only[cm,bx.bT,br,bA,if_false,hh,h1]
 case call f as=>
  simp only[bx.gU,b6,forall_eq_or_imp]at h;have h1:=h.1;have h2:s.cX as=s'.cX as:=nI h.2;simp only[cm,hh,h1,h2]
 case invoke f name as=>
  simp only[bx.gU,b6,forall_eq_or_imp]at h;have h1:=h.1;have h2:s.cX as=s'.cX as:=nI h.2;simp only[cm,hh,h1,h2]
 all_goals
  simp only[bx.gU,b6,List.not_mem_nil,or_false,forall_eq_or_imp,forall_eq]at h;simp only[cm,bx.bT,cg,br,bA,if_false,if_true,hh,h]
theorem kc (wr:List Nat):∀(h h':ae) (i b:Nat),h.length<=h'.length ->
 (fN wr h h' i)[b]? = if b<h.length then (if wr.contains (b+i) then h'[b]? else h[b]?) else h'[b]?
 | [],h',i,b,_=>by rfl
 | o::h,[],i,b,hl=>by simp at hl
 | o::h,n::h',i,b,hl=>by
  cases b with
  | zero=>simp[fN];grind
  | succ b=>
   simp only[fN,d9,d6];rw[kc wr h h' (i+1) b au];grind
theorem rB (wr:List Nat):∀(h h':ae) (i:Nat),h.length<=h'.length->(fN wr h h' i).length=h'.length
 | [],h',i,_=>by rfl
 | o::h,[],i,hl=>by simp at hl
 | o::h,n::h',i,hl=>by simp[fN,rB wr h h' (i+1) (by simpa using hl)]
end Go.Ab
namespace Go.Ab
variable {P:Program} {gl:Nat->Option AV} {ρ:aO} {w:World} {h:ae} {C:Cx} {s:St} {a:Act}
theorem Gz {L:List Oper}{o:Oper}{io:bj}(h:tZ C L o=some io):kE C o.dst=some io.dst/\jm C o=some io.op/\tY C L o.guard=some io.guard:=by
 unfold tZ at h;grind
theorem rC {L:List Oper}:∀{l:List Oper} {il:List bj},jX C L l=some il->il.length=l.length/\∀(i:Nat) (o:Oper),l[i]? = some o->∃io,il[i]? = some io/\tZ C L o=some io
 | [],il,h=>by simp only[jX,bI.injEq]at h;grind
 | o::r,il,h=>by
  simp only[jX]at h;split at h
  . rename_i io l h1 h2;cases h;obtain⟨g1,g2⟩:=rC h2<;>grind
  . cases h
theorem Qf {call:eC}(hcall:mD C.P C.gl call){ro:Option Nat}{ops:Array Oper}{il:List bj}(hil:jX C ops.toList ops.toList=some il){Q:Exit->Act->World->Prop} :
 ∀(m k:Nat) (s s':aw) (ρ:aO) (a:Act) (w:World),k+m=ops.size->Rel C ρ s.s a w->fz call (fD C.P) (il.drop k) s=some s' ->
  (∀ρ' a' w',Rel C ρ' s'.s a' w'->Ext s.s.hp s'.s.hp ρ ρ' w w'->a'.defers=a.defers->Q .normal a' w')->wpOpsIn (FR ro) 0 C.P ops Q (List.range' k m) a w:=by
 obtain⟨hlen,hget⟩:=rC hil;intro m;induction m with
 | zero=>
  intro k s s' ρ a w hk r hq hQ;have:il.drop k=[]:=by
   rw[List.drop_eq_nil_iff];simp at hlen;omega
  rw[this]at hq;cases hq;simp only[List.range'_zero,wpOpsIn];exact hQ ρ a w r (Ext.refl _ _ _) rfl
 | succ m ih=>
  intro k s s' ρ a w hk r hq hQ;have hklt:k<ops.size:=by omega
  obtain⟨io,h1,h2⟩:=hget k ops[k] am;obtain⟨hd,hop,hg⟩:=Gz h2;have hdrop:il.drop k=io::il.drop (k+1):=by
   have hk':k<il.length:=(aL.1 h1).1;rw[gF hk'];congr 1;exact(aL.1 h1).2
  rw[hdrop]at hq;simp only[fz]at hq;simp only[List.range'_succ,wpOpsIn];have ho:ops[k]? = some ops[k]:=by simp[hklt]
  rw[ho];simp only;split at hq
  . rename_i hw;rw[if_pos (Ad r hg hw)];split at hq
    . rename_i q hq1;refine Gv hcall r hop hq1 ?_;rintro v' w' ⟨ρ',hv,m',x⟩;refine ih (k+1) _ s' ρ' _ w' ac ⟨Ac (er:=r.er.mono x) hd hv _,m'⟩ hq ?_;intro ρ2 a2 w2 r2 x2 hd2;refine hQ ρ2 a2 w2 r2 (x.trans x2) (hd2.trans ?_);unfold Act.put;grind
    grind
  . rename_i hw;rw[if_neg (by grind[Ad])];refine⟨fun _ _=>trivial,ih (k+1) _ s' ρ _ w ac ⟨?_,?_⟩ hq ?_⟩
    . exact Ac (er:=r.er) hd V.undef s.s.hp
    . have:(s.s.put io.dst cV).hp=s.s.hp:=by cases io.dst <;> rfl
      rw[this];exact r.mem
    . intro ρ2 a2 w2 r2 x2 hd2;have:(s.s.put io.dst cV).hp=s.s.hp:=by cases io.dst <;> rfl
      simp only[this]at x2;refine hQ ρ2 a2 w2 r2 x2 (hd2.trans ?_);unfold Act.put;grind
  grind
theorem Rel.Qg (r:Rel C ρ s a w):Rel C ρ { s with lo:=[] } a w:=
 ⟨⟨r.er.size,r.er.nodup,r.er.lt,r.er.kG,r.er.pe,am⟩,r.mem⟩
theorem Qh {call:eC}(hcall:mD C.P C.gl call){ro:Option Nat}{id:Nat}{ops:Array Oper}{il:List bj}(hil:jX C ops.toList ops.toList=some il){Q:Exit->Act->World->Prop}
 {s s':aw} (r:Rel C ρ s.s a w) (hq:fz call (fD C.P) il ⟨{ s.s with lo:=[] },s.wr⟩=some s')
 (hQ:∀ρ' a' w',Rel C ρ' s'.s a' w'->Ext s.s.hp s'.s.hp ρ ρ' w w'->a'.defers=a.defers->Q .normal a' w'):(Code.region id ops false).wpIn (FR ro) 0 C.P Q a w:=by
 refine wpIn_region ?_;rw[List.range_eq_range'];exact Qf hcall hil ops.size 0 _ s' ρ a w ac r.Qg hq hQ
end Go.Ab
namespace Go.Ab
structure ur (call:eC)(inv:fg)(st:Nat->aw)(h0:Nat->ae)(r:Nat->HR)(k:Nat)(o:bj)(un:List Nat):Prop where
 wanted:∃b,fa (st k).s o.guard=some b/\(b=true->cm call inv { (st k).s with hp:=h0 k } o.op=some (r k))/\(b=false->r k=⟨cV,h0 k,[]⟩)
 len:(h0 k).length=(st k).s.hp.length
 known:∀(b:Nat) x,(h0 k)[b]? = some (some x)->(st k).s.hp[b]? = some (some x)
 off:∀(b:Nat) x,(h0 k)[b]? = some (some x)->∀j∈un,j<k->b∉(r j).wr/\¬((st j).s.hp.length<=b/\b<(r j).h.length)
 rD:∀b∈(r k).wr,∃x,(h0 k)[b]? = some (some x)
 Qi:∀j∈un,j<k->∀b∈(r k).wr,∀x,(h0 j)[b]? ≠ some (some x)
 next:st (k+1)=⟨{ (st k).s.put o.dst (r k).v with hp:=fN (r k).wr (st k).s.hp (r k).h 0 },(r k).wr++(st k).wr⟩
theorem nJ (T:List Nat):∀(h:ae) (i b:Nat),(fh T h i)[b]? = (h[b]?).map fun o=>if T.contains (b+i) then o else none
 | [],i,b=>by rfl
 | o::h,i,b=>by
  cases b with
  | zero=>simp[fh]
  | succ b=>simp only[fh,d9];rw[nJ T h (i+1) b,show b+(i+1)=b+1+i from by omega]
theorem gr (T:List Nat):∀(h:ae) (i:Nat),(fh T h i).length=h.length
 | [],i=>rfl
 | o::h,i=>by simp[fh,gr T h (i+1)]
theorem Ag:∀(U:List Nat) (h:ae) (b:Nat),(mask h U)[b]? = if b∈U then (h[b]?).map fun _=>none else h[b]?
 | [],h,b=>by rfl
 | u::U,h,b=>by
  have:=Ag U (h.set u none) b;unfold mask at this ⊢;rw[j7,this];simp only[ce,b6];by_cases hu:u=b
  . subst hu;by_cases hl:u<h.length
    . simp[hl]
    . simp[hl]
  . rw[if_neg hu];have:(b=u)↔False:=⟨fun e=>hu e.symm,False.elim⟩;simp[this]
theorem GA:∀(U:List Nat) (h:ae),(mask h U).length=h.length
 | [],h=>rfl
 | u::U,h=>by
  have:=GA U (h.set u none);unfold mask at this ⊢;rw[j7,this];simp
theorem Qj {d:cD}{b:Nat}:b∈d.own↔b∈d.wr\/(d.lo<=b/\b<d.hi):=by
 unfold cD.own;grind
def GB (st:Nat->aw)(h0:Nat->ae)(r:Nat->HR)(ds:List cD):Prop:=
 ∀j d,ds[j]? = some d->d.wr=(r j).wr/\d.lo=(st j).s.hp.length/\d.hi=(r j).h.length/\∀T,d.kC=some T->∀(b:Nat) x,(h0 j)[b]? = some (some x)->b∈T
theorem GC {a b:List Nat}(h:iR a b=true):∀x∈a,x∉b:=by
 intro x hx hb;have:=ck.1 h x hx<;>grind
theorem trace {call:eC}{inv:fg}:∀(l:List (bj×List Nat)) (s:aw) (ds:List cD) (s':aw) (st0:Nat->aw) (h00:Nat->ae) (r00:Nat->HR),GB st0 h00 r00 ds->eu call inv l s ds=some s' ->
 ∃st h0 r,(∀j,j<ds.length->st j=st0 j/\h0 j=h00 j/\r j=r00 j)/\st ds.length=s/\st (ds.length+l.length)=s' /\
  ∀k o un,l[k]? = some (o,un)->ur call inv st h0 r (ds.length+k) o un
 | [],s,ds,s',st0,h00,r00,hds,hq=>by
  simp only[eu,bI.injEq]at hq;subst hq;refine⟨fun j=>if j=ds.length then s else st0 j,h00,r00,fun j hj=>⟨au,rfl,rfl⟩,am,am,am⟩
 | (o,un)::rest,s,ds,s',st0,h00,r00,hds,hq=>by
  have fin:∀(g0:ae) (q:HR) (t:Option (List Nat)) (b:Bool),fa s.s o.guard=some b->(b=true->cm call inv { s.s with hp:=g0 } o.op=some q)->(b=false->q=⟨cV,g0,[]⟩) ->
   g0.length=s.s.hp.length->(∀(b:Nat) x,g0[b]? = some (some x)->s.s.hp[b]? = some (some x)) ->
   (∀(b:Nat) x,g0[b]? = some (some x)->∀j∈un,∀d,ds[j]? = some d->b∉d.own)->(∀b∈q.wr,∃x,g0[b]? = some (some x)) ->
   (∀j∈un,∀d,ds[j]? = some d->∀b∈q.wr,∃T,d.kC=some T/\b∉T)->(∀T,t=some T->∀(b:Nat) x,g0[b]? = some (some x)->b∈T) ->
   eu call inv rest ⟨{ s.s.put o.dst q.v with hp:=fN q.wr s.s.hp q.h 0 },q.wr++s.wr⟩ (ds++[⟨t,q.wr,s.s.hp.length,q.h.length⟩])=some s' ->
   ∃st h0 r,(∀j,j<ds.length->st j=st0 j/\h0 j=h00 j/\r j=r00 j)/\st ds.length=s/\st (ds.length+((o,un)::rest).length)=s' /\
    ∀k o' un',((o,un)::rest)[k]? = some (o',un')->ur call inv st h0 r (ds.length+k) o' un':=by
   intro g0 q t b hw h1 h2 h3 h4 h5 h6 h7 h8 hrec;have hds':GB (fun j=>if j=ds.length then s else st0 j) (fun j=>if j=ds.length then g0 else h00 j) (fun j=>if j=ds.length then q else r00 j) (ds++[⟨t,q.wr,s.s.hp.length,q.h.length⟩]):=by
    intro j d hj;rw[iX]at hj;split at hj
    . rename_i hlt;have:j≠ds.length:=by omega
      simp only[this,if_false];exact hds j d hj
    . grind
   obtain⟨st,h0,r,e1,e2,e3,e4⟩:=trace rest _ _ s' _ _ _ hds' hrec;simp only[cn,d6,d7,hZ]at e1 e2 e3 e4;have eN:=e1 ds.length ac;simp only[if_true]at eN;have elt:∀j,j<ds.length->st j=st0 j/\h0 j=h00 j/\r j=r00 j:=by
    intro j hj;have:=e1 j ac;rw[if_neg ac,if_neg ac,if_neg ac]at this;exact this
   refine⟨st,h0,r,elt,eN.1,au,?_⟩;intro k o' un' hk;cases k with
   | zero=>
    simp at hk;obtain⟨rfl,rfl⟩:=hk;rw[i9];have hown:∀j,j<ds.length->∃d,ds[j]? = some d/\(∀b,b∈d.own↔b∈(r j).wr\/((st j).s.hp.length<=b/\b<(r j).h.length))/\∀T,d.kC=some T->∀(b:Nat) x,(h0 j)[b]? = some (some x)->b∈T:=by
     intro j hj;obtain⟨f1,f2,f3⟩:=elt j hj;obtain⟨g1,g2,g3,g4⟩:=hds j ds[j] (by simp[hj]);refine⟨ds[j],by simp[hj],fun b=>?_,fun T hT b x hb=>au⟩;rw[Qj,g1,g2,g3,f1,f3]
    refine⟨?_,?_,?_,?_,?_,?_,?_⟩<;>grind
   | succ k=>
    grind
  have keep0:∀(b:Nat) x,(fh [] s.s.hp 0)[b]? ≠ some (some x):=by
   intro b x;rw[nJ];cases s.s.hp[b]? <;> simp
  have merge0:fN [] s.s.hp (fh [] s.s.hp 0) 0=s.s.hp:=by
   apply ci;intro b;rw[kc _ _ _ _ _ (by rw[gr];simp)];split
   . simp
   . grind[fW,gr]
  have go:∀(t:Option (List Nat)) (g0:ae),fa s.s o.guard=some true->(match t with|some T=>iR T (un.flatMap fun j=>(ds[j]?).elim [] cD.own)|none=>true)=true ->
   g0=(match t with|some T=>fh T s.s.hp 0|none=>mask s.s.hp (un.flatMap fun j=>(ds[j]?).elim [] cD.own)) ->
   (match cm call inv { s.s with hp:=g0 } o.op with
     | some r=>
      if ((r.wr.all fun b=>(g0.at b).isSome) && (r.wr.isEmpty || un.all (fun j=>match ds[j]? with|some d=>(match d.kC with|some T=>iR r.wr T|none=>false)|none=>false)))=true then
       eu call inv rest ⟨{ s.s.put o.dst r.v with hp:=fN r.wr s.s.hp r.h 0 },r.wr++s.wr⟩ (ds++[⟨t,r.wr,s.s.hp.length,r.h.length⟩])
      else none
     | none=>none)=some s' ->
   ∃st h0 r,(∀j,j<ds.length->st j=st0 j/\h0 j=h00 j/\r j=r00 j)/\st ds.length=s/\st (ds.length+((o,un)::rest).length)=s' /\
    ∀k o' un',((o,un)::rest)[k]? = some (o',un')->ur call inv st h0 r (ds.length+k) o' un':=by
   intro t g0 hw hdis hg0 hq;split at hq
   . rename_i q hq1;split at hq
     . rename_i hchk;rw[aY]at hchk;obtain⟨hc1,hc2⟩:=hchk;refine fin g0 q t true hw (fun _=>hq1) am ?_ ?_ ?_ ?_ ?_ ?_ hq
       . grind[GA,gr]
       . grind[Ag,nJ,bI.injEq]
       . intro b x hb j hj d hd hbo;have hU:b∈un.flatMap fun j=>(ds[j]?).elim [] cD.own:=by
          rw[List.mem_flatMap];exact⟨j,hj,au⟩
         subst hg0;cases t
         . simp only at hb;rw[Ag,if_pos hU]at hb;grind
         grind[nJ,bI.injEq,GC]
       . intro b hb;have:=ck.1 hc1 b hb;unfold ae.at at this;cases hz:g0[b]? with
         | none=>grind
         | some z=>cases z<;>grind
       . intro j hj d hd b hb;rw[Bool.or_eq_true]at hc2;grind[GC]
       grind[nJ,bI.injEq]
     grind
   . cases hq
  simp only[eu]at hq;split at hq
  . rename_i hw;split at hq
    . cases ht:lh s.s o.op with
      | none=>
       simp only[ht]at hq;exact go none _ hw rfl rfl hq
      | some T=>
       simp only[ht]at hq;split at hq
       . rename_i hdis;exact go (some T) _ hw hdis rfl hq
       grind
    . rename_i hh;split at hq
      . rename_i v hv;have hhf:o.op.bT=false:=by simpa using hh
        refine fin (fh [] s.s.hp 0) ⟨v,fh [] s.s.hp 0,[]⟩ (some []) true hw (fun _=>?_) am (gr _ _ _) au au am am au ?_
        . have:cm call inv { s.s with hp:=fh [] s.s.hp 0 } o.op=(br { s.s with hp:=fh [] s.s.hp 0 } o.op).map fun v=>⟨v,fh [] s.s.hp 0,[]⟩:=by
           cases ho:o.op <;> rw[ho]at hhf <;> first|(simp[bx.bT]at hhf;done)|rfl
          rw[this];have hv':br { s.s with hp:=fh [] s.s.hp 0 } o.op=some v:=by
           rw[←hv];have hc:=fun s' h'=>Gy (call:=call) (inv:=inv) (s:=s') (s':=s') (io:=o.op) rfl h'
           have e:∀(h:ae),br { s.s with hp:=h } o.op=br s.s o.op:=by
            intro h;have e1:∀x,({ s.s with hp:=h }:St).ah x=s.s.ah x:=by intro x;cases x <;> rfl
            have e2:∀xs,({ s.s with hp:=h }:St).cX xs=s.s.cX xs:=(by grind[nI]);have e3:∀xs,({ s.s with hp:=h }:St).eK xs=s.s.eK xs:=fun xs=>(by rfl)
            have e4:∀xs,({ s.s with hp:=h }:St).parts xs=s.s.parts xs:=(by grind[uq]);cases o.op <;> simp only[br,e1,e2,e3,e4]
           exact e _
          grind
        . have e:({ s.s.put o.dst v with hp:=s.s.hp }:St)=s.s.put o.dst v:=by cases o.dst <;> rfl
          grind[gr]
      grind
  . rename_i hw;refine fin (fh [] s.s.hp 0) ⟨cV,fh [] s.s.hp 0,[]⟩ (some []) false hw am (fun _=>rfl) (gr _ _ _) au au am am au ?_;have e:({ s.s.put o.dst cV with hp:=s.s.hp }:St)=s.s.put o.dst cV:=by cases o.dst <;> rfl
    grind[gr]
  grind
end Go.Ab
namespace Go.Ab
variable {dst:Option Tmp} {d:fC} {y:aS}
variable {P:Program} {gl:Nat->Option AV} {ρ:aO} {w:World} {h:ae} {C:Cx} {s:St} {a:Act}
def fc (lo:Nat)(ρ:aO):aO:=⟨fun b=>if b<lo then ρ b else .fresh,fun c=>ρ.X c\/∃b d,lo<=b/\ρ b = .live c d⟩
theorem dv.fc {c:Nat}(lo:Nat)(h:dv ρ c):dv (fc lo ρ) c:=by
 refine⟨fun b d hb=>?_,?_⟩
 . simp only[Ab.fc]at hb;split at hb
   . exact h.1 b d hb
   grind
 . rintro(hx|⟨b,d,_,hb⟩)
   . exact h.2 hx
   . exact h.1 b d hb
theorem BR.gM {ρ ρ':aO}{n:Nat}(hρ:∀b,b<n->ρ' b=ρ b)(hF:∀c,dv ρ c->dv ρ' c){b:Nat}(hb:b<n){o:cd}(h:BR P gl ρ w b o)(ht:o.top<=n):BR P gl ρ' w b o:=by
 cases o with
 | cells l e=>
  rcases h with ⟨c,d,cs,fr,h1,h2,h3,h4,h5⟩|⟨h1,h2⟩
  . exact .inl ⟨c,d,cs,fr,(hρ b hb).trans h1,h2,h3,h4,fun i x y hx hy=>(h5 i x y hx hy).gM hρ hF (fF ht i x hx)⟩
  . exact .inr ⟨(hρ b hb).trans h1,h2⟩
 | map es=>
  obtain⟨c,ms,clk,h1,h2,h3,h4⟩:=h;have key:∀(es:List (AV×AV)),cd.top.ny es<=n->∀(i:Nat) kx vx,es[i]? = some (kx,vx)->kx.top<=n/\vx.top<=n:=by
   intro es;induction es with
   | nil=>simp
   | cons p r ih=>
    intro ht i kx vx hx;obtain⟨k,v⟩:=p;simp only[cd.top.ny]at ht<;>grind
  exact⟨c,ms,clk,(hρ b hb).trans h1,h2,h3,fun i kx vx m hx hm=>by
   obtain⟨g1,g2⟩:=h4 i kx vx m hx hm;obtain⟨t1,t2⟩:=key es ht i kx vx hx;exact⟨g1.gM hρ hF t1,g2.gM hρ hF t2⟩⟩
 | iter s pos=>obtain⟨c,h1,h2⟩:=h;exact⟨c,(hρ b hb).trans h1,h2⟩
 | gI=>obtain⟨c,h1,h2⟩:=h;exact⟨c,(hρ b hb).trans h1,h2⟩
 | hole=>exact(hρ b hb).trans h
 | loop st pend pe ps a bd=>
  obtain⟨c,r,aV,N,h1,h2,h3,h4,h5,h6⟩:=h;exact⟨c,r,aV,N,(hρ b hb).trans h1,h2,h3,h4,⟨h5.size,h5.nodup,h5.lt,h5.kG,fun i v t hv ht'=>(h5.pe i v t hv ht').gM hρ hF (fF ht i v hv),am⟩,h6⟩
theorem BR.top {n:Nat}(hn:∀b,n<=b->ρ b = .fresh){b:Nat}{o:cd}(h:BR P gl ρ w b o):o.top<=n:=by
 cases o with
 | cells l e=>
  rcases h with ⟨c,d,cs,fr,h1,h2,h3,h4,h5⟩|⟨h1,h2⟩
  . refine mq fun i x hx=>?_
    have hi:=(aL.1 hx).1;have hlt:i+d<cs.size:=by have:=h3.1;omega
    exact(h5 i x cs[i+d] hx am).top hn
  . subst h2;simp[cd.top,bG]
 | map es=>
  obtain⟨c,ms,clk,h1,h2,h3,h4⟩:=h;have key:∀(es:List (AV×AV)),(∀(i:Nat) kx vx,es[i]? = some (kx,vx)->kx.top<=n/\vx.top<=n)->cd.top.ny es<=n:=by
   intro es;induction es with
   | nil=>intro _;simp[cd.top.ny]
   | cons p r ih=>
    intro hx;obtain⟨k,v⟩:=p;simp only[cd.top.ny];have:=hx 0 k v rfl;have:=ih fun i kx vx h=>hx (i+1) kx vx au
    omega
  refine key es fun i kx vx hx=>?_
  have hi:=(aL.1 hx).1;obtain⟨g1,g2⟩:=h4 i kx vx ms[i] hx am;exact⟨g1.top hn,g2.top hn⟩
 | iter s pos=>simp[cd.top]
 | gI=>simp[cd.top]
 | hole=>simp[cd.top]
 | loop st pend pe ps a bd=>
  obtain⟨c,r,aV,N,h1,h2,h3,h4,h5,h6⟩:=h;refine mq fun i x hx=>?_
  have hi:=(aL.1 hx).1;have hp:=h5.kG;exact(h5.pe i x aV[i] hx am).top hn
def VS (C:Cx)(ρ:aO)(w:World)(tmps:Array Value)(y:aS)(v:AV):Prop:=
 match y with
 | .p i=>∀t,C.aV[i]? = some t->V ρ w v (tmps.getD t undef)
 | .l t=>t<C.N/\t∉C.aV/\V ρ w v (tmps.getD t undef)
 | .c _=>True
theorem VS.mono {h h':ae}{ρ ρ':aO}{w w':World}(x:Ext h h' ρ ρ' w w'){tmps:Array Value}{y:aS}{v:AV}(hv:VS C ρ w tmps y v):VS C ρ' w' tmps y v:=by
 cases y with
 | p i=>exact fun t ht=>(hv t ht).mono x
 | l t=>exact⟨hv.1,hv.2.1,hv.2.2.mono x⟩
 | c _=>trivial
theorem uu {v:Value}:(a.put dst v).tmps=match dst with|some t=>a.tmps.setIfInBounds t v|none=>a.tmps:=by
 cases dst <;> rfl
theorem VS.Qk (hd:kE C dst=some d)(hsz:a.tmps.size=C.N){y:aS}(hy:eM d y=true){x:AV}{v:Value}(hv:V ρ w x v):VS C ρ w (a.put dst v).tmps y x:=by
 cases dst with
 | none=>cases hd;cases y <;> simp[eM]at hy
 | some t=>
  simp only[kE]at hd;split at hd
  . rename_i hlt;split at hd
    . rename_i i hi;cases hd;have hti:=ud hi;cases y <;> simp[eM]at hy;subst hy;intro u hu;rw[hti]at hu;cases hu;rw[uu];simp_all
    . rename_i hi;cases hd;have hnt:=ue hi;cases y <;> simp[eM]at hy;subst hy;refine⟨hlt,hnt,?_⟩;rw[uu];simp_all
  grind
theorem VS.Ql (hd:kE C dst=some d)(hnd:C.aV.Nodup){y:aS}(hy:eM d y=false){x:AV}{v:Value}(hv:VS C ρ w a.tmps y x):VS C ρ w (a.put dst v).tmps y x:=by
 cases dst with
 | none=>exact hv
 | some t=>
  rw[uu];simp only[kE]at hd;split at hd
  . rename_i hlt;split at hd
    . rename_i i hi;cases hd;have hti:=ud hi;cases y with
      | p j=>
       simp[eM]at hy;intro u hu;have hne:u≠t:=fun e=>by
        grind[i8]
       simp only[nH];rw[if_neg ac];exact hv u hu
      | l u=>
       obtain⟨g1,g2,g3⟩:=hv;have hne:u≠t:=au;refine⟨g1,g2,?_⟩;simp only[nH]<;>grind
      | c _=>trivial
    . rename_i hi;cases hd;have hnt:=ue hi;cases y with
      | p j=>
       intro u hu;have hne:u≠t:=au;simp only[nH];rw[if_neg ac];exact hv u hu
      | l u=>
       simp[eM]at hy;obtain⟨g1,g2,g3⟩:=hv;refine⟨g1,g2,?_⟩<;>simp_all
      | c _=>trivial
  grind
theorem Qm (hy:eM d y=true){x v:AV}(h:(s.put d x).ah y=some v):v=x:=by
 cases d <;> cases y <;> simp[eM]at hy
 . subst hy;simp only[St.put,St.ah,ce]at h<;>grind
 . subst hy;simp only[St.put,St.ah,List.lookup_cons_self]at h<;>grind
theorem Qn (hy:eM d y=false){x:AV}:(s.put d x).ah y=s.ah y:=by
 cases d <;> cases y <;> first|rfl|skip
 . rename_i i j;simp[eM]at hy;simp only[St.put,St.ah,ce]<;>grind
 . rename_i t u;simp[eM]at hy;simp only[St.put,St.ah,j3]<;>grind
def restrict (us:List aS)(s:St)(h:ae):St:=
 { s with pe:=s.pe.mapIdx (fun i v=>if us.any (eM (.p i)) then v else .dI),lo:=s.lo.filter (fun e=>us.any (eM (.l e.1))),hp:=h }
theorem Ah {p:Nat->Bool}{t:Nat}:∀(l:List (Nat×AV)),(l.filter (fun e=>p e.1)).lookup t=if p t then l.lookup t else none
 | []=>by simp
 | (u,v)::r=>by
  have ih:=Ah (p:=p) (t:=t) r<;>grind
theorem GD {us:List aS}(hy:y∈us)(h:ae):(restrict us s h).ah y=s.ah y:=by
 cases y with
 | p i=>
  have:us.any (eM (.p i))=true:=f6.2 ⟨_,hy,by simp[eM]⟩;simp only[restrict,St.ah,f9,this,if_true]<;>grind
 | l t=>
  have:us.any (eM (.l t))=true:=f6.2 ⟨_,hy,by simp[eM]⟩;simp only[restrict,St.ah];rw[Ah (p:=fun t=>us.any (eM (.l t))),if_pos this]
 | c v=>rfl
theorem Qo {us:List aS}{tmps:Array Value}(hsz:tmps.size=C.N)(hnd:C.aV.Nodup)(hlt:∀t∈C.aV,t<C.N)(hpl:s.pe.length=C.aV.length)
 (hv:∀y∈us,∀v,s.ah y=some v->VS C ρ w tmps y v) (h:ae):ER C ρ w (restrict us s h).pe (restrict us s h).lo tmps:=by
 refine⟨hsz,hnd,hlt,by simp[restrict,hpl],?_,?_⟩
 . intro i v t h1 h2;simp only[restrict,f9,be]at h1;obtain⟨u,h3,h4⟩:=h1;split at h4
   . rename_i hu;subst h4;obtain⟨y,hy,hs⟩:=f6.1 hu;cases y <;> simp[eM]at hs;subst hs;exact hv _ hy u h3 t h2
   . subst h4;exact .dI _
 . intro t v h1;simp only[restrict]at h1;rw[Ah (p:=fun t=>us.any (eM (.l t)))]at h1;split at h1
   . rename_i hu;obtain⟨y,hy,hs⟩:=f6.1 hu;cases y <;> simp[eM]at hs;subst hs;exact hv _ hy v h1
   grind
end Go.Ab
namespace Go.Ab
variable {k:Nat}
structure nK (call:eC)(inv:fg)(il:List bj)(un:Nat->List Nat)(st:Nat->aw)(h0:Nat->ae)(r:Nat->HR):Prop where
 step:∀k o,il[k]? = some o->ur call inv st h0 r k o (un k)
 wr:∀g as h r,call g as h=some r->fO h r
def own (st:Nat->aw)(r:Nat->HR)(k b:Nat):Prop:=b∈(r k).wr\/((st k).s.hp.length<=b/\b<(r k).h.length)
variable {call:eC} {inv:fg} {il:List bj} {un:Nat->List Nat} {st:Nat->aw} {h0:Nat->ae} {r:Nat->HR}
namespace nK
variable (T:nK call inv il un st h0 r)
include T
theorem GF (hk:k<il.length):fO (h0 k) (r k):=by
 have sk:=T.step k il[k] (by simp[hk]);obtain⟨b,_,h1,h2⟩:=sk.wanted;cases b with
 | true=>exact Af T.wr (h1 rfl)
 | false=>rw[h2 rfl];exact pG _
theorem uv (hk:k<il.length):(st k).s.hp.length<=(r k).h.length:=by
 have:=(T.GF hk).1;rw[(T.step k il[k] (by simp[hk])).len]at this;exact this
theorem uw (hk:k<il.length):(st (k+1)).s.hp.length=(r k).h.length:=by
 rw[(T.step k il[k] (by simp[hk])).next];exact rB _ _ _ _ (T.uv hk)
theorem iT {i:Nat}:∀{j:Nat},i<=j->j<=il.length->(st i).s.hp.length<=(st j).s.hp.length
 | 0,h,_=>by grind
 | j+1,h,hj=>by
  by_cases e:i=j+1
  . grind
  . have h1:(st i).s.hp.length<=(st j).s.hp.length:=iT ac ac;have h2:=T.uv (k:=j) ac;have h3:=T.uw (k:=j) ac;omega
theorem Ai (hk:k<il.length)(b:Nat):(st (k+1)).s.hp[b]? = if b<(st k).s.hp.length then (if (r k).wr.contains b then (r k).h[b]? else (st k).s.hp[b]?) else (r k).h[b]? := by
 rw[(T.step k il[k] (by simp[hk])).next];have:=kc (r k).wr (st k).s.hp (r k).h 0 b (T.uv hk)<;>grind
theorem Qp (hk:k<il.length){b:Nat}(ho:own st r k b):(st (k+1)).s.hp[b]? = (r k).h[b]? := by
 rw[T.Ai hk];split
 . rename_i hlt;rcases ho with ho|ho<;>grind
 . rfl
theorem Qq (hk:k<il.length){b:Nat}(ho:¬own st r k b):(st (k+1)).s.hp[b]? = (st k).s.hp[b]? := by
 rw[T.Ai hk];have h1:b∉(r k).wr:=fun h=>ho (.inl h)
 split
 . simp[h1]
 . rename_i hge;have h2:(r k).h.length<=b:=by
    rcases ba b (r k).h.length with h|h
    . exact absurd (.inr ⟨ac,h⟩) ho
    . exact h
   grind
theorem stays {i b:Nat}:∀{m:Nat},i<=m->m<=il.length->(∀j,i<=j->j<m->¬own st r j b)->(st m).s.hp[b]? = (st i).s.hp[b]?
 | 0,h,_,_=>by grind
 | m+1,h,hm,ho=>by
  by_cases e:i=m+1
  . grind
  . rw[T.Qq ac (ho m ac ac)];exact stays ac ac fun j h1 h2=>ho j h1 ac
theorem GG (hk:k<il.length)(y:aS):(st (k+1)).s.ah y=((st k).s.put il[k].dst (r k).v).ah y:=by
 rw[(T.step k il[k] (by simp[hk])).next];rfl
theorem Aj {i:Nat}{y:aS}:∀{m:Nat},i<=m->m<=il.length->(∀(j:Nat) (o:bj),i<=j->j<m->il[j]? = some o->eM o.dst y=false)->(st m).s.ah y=(st i).s.ah y
 | 0,h,_,_=>by grind
 | m+1,h,hm,ho=>by
  by_cases e:i=m+1
  . grind
  . rw[T.GG ac,Qn (ho m _ ac ac am)];exact Aj ac ac fun j o h1 h2 h3=>ho j o h1 ac h3
theorem dI {b:Nat}(h:(st 0).s.hp[b]? = some none):∀{k:Nat},k<=il.length->(st k).s.hp[b]? = some none
 | 0,_=>h
 | k+1,hk=>by
  have ih:=dI h (k:=k) ac;have hlt:=(aL.1 ih).1;rw[T.Ai ac,if_pos hlt];have:b∉(r k).wr:=by
   intro hb;have sk:=T.step k il[k] am;obtain⟨x,hx⟩:=sk.rD b hb;rw[sk.known b x hx]at ih;cases ih
  grind
theorem GH (hk:k<=il.length):(st k).s.pe.length=(st 0).s.pe.length:=by
 induction k with
 | zero=>rfl
 | succ k ih=>
  rw[←ih ac,(T.step k il[k] am).next];cases il[k].dst <;> simp[St.put]
theorem cF (hk:k<=il.length):(st k).s.cF=(st 0).s.cF:=by
 induction k with
 | zero=>rfl
 | succ k ih=>
  rw[←ih ac,(T.step k il[k] am).next];cases il[k].dst <;> simp[St.put]
end nK
end Go.Ab
namespace Go.Ab
variable {call:eC} {inv:fg} {il:List bj} {un:Nat->List Nat} {st:Nat->aw} {h0:Nat->ae} {r:Nat->HR} {C:Cx} {bits:List Nat} {ρ0:aO} {w0:World} {df:List Deferred}
structure Inv (C:Cx)(il:List bj)(st:Nat->aw)(r:Nat->HR)(bits:List Nat)(ρ0:aO)(w0:World)(df:List Deferred)(S:Nat->Prop)(ρ:aO)(H:ae)(a:Act)(w:World):Prop where
 hlen:H.length=(st il.length).s.hp.length
 mem:Mem C.P C.gl ρ H w
 ext:Ext (st 0).s.hp H ρ0 ρ w0 w
 ux:∀k,k<il.length->¬S k->∀b,(st k).s.hp.length<=b->b<(r k).h.length->H[b]? = some (some .hole)
 heap:∀b k,k<=il.length->(∀i,i<k->own st r i b->S i)->(∀j,k<=j->j<il.length->S j->¬own st r j b)->∀o,(st k).s.hp[b]? = some (some o)->H[b]? = some (some o)/\o.top<=(st k).s.hp.length
 slot:∀y k,k<=il.length->(∀(i:Nat) o,i<k->il[i]? = some o->eM o.dst y=true->S i)->(∀(j:Nat) o,k<=j->il[j]? = some o->S j->eM o.dst y=false) ->
  ∀v,(st k).s.ah y=some v->VS C ρ w a.tmps y v/\((∃c,y = .c c)\/v.top<=(st k).s.hp.length)
 size:a.tmps.size=C.N
 gI:a.defers=df
 Ak:∀i,S i->i<il.length->∀j,j<i->(bits.getD i 0).testBit j=true->S j
theorem Inv.after (T:nK call inv il un st h0 r){S:Nat->Prop}{ρ:aO}{H:ae}{a:Act}{w:World}(I:Inv C il st r bits ρ0 w0 df S ρ H a w)(hnd:C.aV.Nodup){k:Nat}{io:bj}(hio:il[k]? = some io)(hS:¬S k)
 (hap:∀(i:Nat) oi,il[i]? = some oi->∀j∈un i,∃oj,il[j]? = some oj/\pq oj oi=true)
 (hb1:∀j,j<k->¬S j->j∈un k) (hb2:∀j,k<j->j<il.length->S j->k∈un j) (hb3:∀j,j<k->(bits.getD k 0).testBit j=true->S j)
 (hkey:∀(b:Nat) x,(h0 k)[b]? = some (some x)->H[b]? = some (some x)) {dst:Option Tmp} (hd:kE C dst=some io.dst) {v':Value} {w':World} {ρ':aO}
 (hv:V ρ' w' (r k).v v') (m':Mem C.P C.gl ρ' (r k).h w') (x:Ext (h0 k) (r k).h (fc (st k).s.hp.length ρ) ρ' w w') :
 ∃ρn H',Inv C il st r bits ρ0 w0 df (fun i=>S i\/i=k) ρn H' (a.put dst v') w':=by
 have hk:k<il.length:=(aL.1 hio).1;have hioe:il[k]=io:=(aL.1 hio).2;have sk:=T.step k io hio;have hlo:(h0 k).length=(st k).s.hp.length:=sk.len;have hle:=T.uv hk;have hnx:=T.uw hk;have hwr:=T.GF hk;have hmn:=T.iT (i:=k+1) (j:=il.length) ac (b9 _);generalize hloe:(st k).s.hp.length=lo at *
 generalize hhie:(r k).h.length=hi at *
 let ownb:Nat->Bool:=fun b=>(r k).wr.contains b || (decide (lo<=b) && decide (b<hi))
 have ownb_iff:∀b,ownb b=true↔own st r k b:=by
  intro b;simp only[ownb,own,hloe,hhie];simp
 let ρn:aO:=⟨fun b=>if b<hi then ρ' b else ρ b,ρ.X⟩
 let H':ae:=H.mapIdx fun b o=>if ownb b then ((r k).h[b]?).join else o
 have hH':∀b,H'[b]? = (H[b]?).map fun o=>if ownb b then ((r k).h[b]?).join else o:=by
  intro b;simp only[H',f9]
 have hH'len:H'.length=H.length:=by simp[H']
 have cut_eq:∀b,b<lo->(fc lo ρ) b=ρ b:=fun b hb=>by simp only[fc];grind
 have cut_ge:∀b,lo<=b->(fc lo ρ) b = .fresh:=fun b hb=>by simp only[fc];grind
 have fresh_new:∀b,lo<=b->b<hi->ρ b = .fresh:=fun b h1 h2=>I.mem.dJ b .hole (I.ux k hk hS b ac ac)
 have h0none:∀b,b<lo->H[b]? = some none->(h0 k)[b]? = some none:=by
  intro b hb hn;cases hz:(h0 k)[b]? with
  | none=>grind
  | some z=>cases z with
    | none=>rfl
    | some z=>grind
 have ρn_lt:∀b,b<hi->ρn b=ρ' b:=au;have ρn_ge:∀b,hi<=b->ρn b=ρ b:=au;have E:Ext H H' ρ ρn w w':=by
  refine⟨x.os,x.tape,x.output,x.size,ac,rfl,?_,?_,?_,?_,?_,?_,?_,x.shape⟩
  . intro b hb;have:ownb b=false:=by
     rw[cZ];intro ho;rcases (ownb_iff b).1 ho with h|⟨h1,h2⟩
     . obtain⟨z,hz⟩:=sk.rD b h;grind
     . rw[I.ux k hk hS b h1 h2]at hb;cases hb
    rw[hH' b,hb];simp[this]
  . intro b hb;rcases ba b hi with h|h
    . rw[ρn_lt b h];have hblo:b<lo:=by
       rcases ba b lo with h'|h'
       . exact h'
       . rw[I.ux k hk hS b ac ac]at hb;cases hb
      rw[x.same b au,cut_eq b hblo]
    grind
  . intro b c d hb;rcases ba b hi with h|h
    . rw[ρn_lt b h];rcases ba b lo with h'|h'
      . exact x.live b c d au
      grind
    grind
  . intro b hb;rcases ba b hi with h|h
    . rw[ρn_lt b h];rcases ba b lo with h'|h'
      . exact x.dead b au
      grind
    grind
  . intro b hb;rcases ba b hi with h|h
    . rw[ρn_lt b h];rcases ba b lo with h'|h'
      . exact x.nil b au
      grind
    grind
  . intro c hc hu;refine x.dc c hc fun b d hb=>?_
    grind
  . intro b c d hb hc;rcases ba b hi with h|h
    . rw[ρn_lt b h]at hb;rcases x.back b c d hb hc with h1|⟨b0,d0,h1,h2⟩
      . grind
      grind
    grind
 have hFree:∀c,dv ρ' c->dv ρn c:=by
  intro c hc;have hX:ρ'.X=(fc lo ρ).X:=x.X;have h2:=hc.2;rw[hX]at h2;refine⟨fun b d hb=>?_,fun hx=>h2 (.inl hx)⟩;rcases ba b hi with h|h
  . rw[ρn_lt b h]at hb;exact hc.1 b d hb
  . rw[ρn_ge b h]at hb;exact h2 (.inr ⟨b,d,ac,hb⟩)
 have top':∀{y:AV} {u:Value},V ρ' w' y u->y.top<=hi:=fun hy=>hy.top fun b hb=>m'.fresh b ac
 have hM:Mem C.P C.gl ρn H' w':=by
  refine⟨?_,?_,?_,?_,?_,?_,fun g v hg=>(I.mem.gl g v hg).mono E⟩
  . intro b o hb;rw[hH' b]at hb;cases hz:H[b]? with
    | none=>grind
    | some z=>
     rw[hz]at hb;simp only[bW,bI.injEq]at hb;have useR:(r k).h[b]? = some (some o)->BR C.P C.gl ρn w' b o:=by
      intro hr;have hb':b<hi:=by have:=(aL.1 hr).1;omega
      have hbr:=m'.dJ b o hr;exact hbr.gM (n:=hi) ac hFree hb' (hbr.top fun b hb=>m'.fresh b ac)
     split at hb
     . grind
     . rename_i hno;subst hb;have hno':¬own st r k b:=au;have hbr:=I.mem.dJ b o hz;rcases ba b lo with h'|h'
       . cases hz0:(h0 k)[b]? with
         | none=>grind
         | some z0=>
          cases z0 with
          | some o'=>
           have:=hkey b o' hz0;rw[hz]at this;cases this;refine useR ?_;rw[hwr.2 b ac au,hz0]
          | none=>
           refine hbr.mono E ?_ ?_
           . rw[ρn_lt b ac,x.same b hz0,cut_eq b h']
           . intro c d hl;refine x.dc c (I.mem.bound b c d hl) fun b' d' hb'=>?_
             rcases ba b' lo with h''|h''
             . rw[cut_eq b' h'']at hb';have:=I.mem.inj _ _ _ _ _ hl hb';grind
             grind
       . have hge:hi<=b:=by
          rcases ba b hi with h|h
          . grind
          . exact h
         refine hbr.mono E (ρn_ge b hge) ?_;intro c d hl;refine x.dc c (I.mem.bound b c d hl) fun b' d' hb'=>?_
         rcases ba b' lo with h''|h''
         . rw[cut_eq b' h'']at hb';have:=I.mem.inj _ _ _ _ _ hl hb';omega
         grind
  . intro b hb;rw[hH'len,I.hlen]at hb;rw[ρn_ge b ac];exact I.mem.fresh b (by rw[I.hlen];exact hb)
  . have key:∀b b' c d d',b<hi->hi<=b'->ρ' b = .live c d->ρ b' = .live c d'->False:=by
     intro b b' c d d' h1 h2 h3 h4;have:=m'.xo b c d h3;rw[x.X]at this;exact this (.inr ⟨b',d',ac,h4⟩)
    intro b b' c d d' h1 h2;rcases ba b hi with h|h <;> rcases ba b' hi with h'|h'
    . rw[ρn_lt b h]at h1;rw[ρn_lt b' h']at h2;exact m'.inj _ _ _ _ _ h1 h2
    . grind
    . grind
    . rw[ρn_ge b h]at h1;rw[ρn_ge b' h']at h2;exact I.mem.inj _ _ _ _ _ h1 h2
  . intro b c d hb;rcases ba b hi with h|h
    . rw[ρn_lt b h]at hb;exact m'.bound _ _ _ hb
    . rw[ρn_ge b h]at hb;exact d8 (I.mem.bound _ _ _ hb) x.size
  . intro c hc;exact d8 (I.mem.xb c hc) x.size
  . intro b c d hb hX;rcases ba b hi with h|h
    . rw[ρn_lt b h]at hb;have:=m'.xo b c d hb;rw[x.X]at this;exact this (.inl hX)
    . rw[ρn_ge b h]at hb;exact I.mem.xo _ _ _ hb hX
 have hvn:V ρn w' (r k).v v':=hv.gM (n:=hi) ac hFree (top' hv);refine⟨ρn,H',⟨by rw[hH'len];exact I.hlen,hM,I.ext.trans E,?_,?_,?_,?_,?_,?_⟩⟩
 . -- holes
   intro k' hk' hS' b h1 h2;have hne:k'≠k:=ac;have hh:=I.ux k' hk' au b h1 h2;have:ownb b=false:=by
    rw[cZ];intro ho;rcases (ownb_iff b).1 ho with h|⟨h3,h4⟩
    . obtain⟨z,hz⟩:=sk.rD b h;rw[hkey b z hz]at hh;cases hh;have hst:=sk.known b _ hz;rcases jr k' k with hlt|heq|hgt
      . -- made by k' in the text's order, so k' has been carried out
        have hun:k'∈un k:=au;exact(sk.off b _ hz k' hun hlt).2 ⟨h1,h2⟩
      . omega
      . have hlen':=(aL.1 hz).1;have:=T.iT (i:=k) (j:=k') ac ac;omega
    . rcases jr k' k with hlt|heq|hgt
      . have h5:=T.uw hk';have h6:=T.iT (i:=k'+1) (j:=k) ac ac;omega
      . omega
      . have h6:=T.iT (i:=k+1) (j:=k') ac ac;omega
   rw[hH' b,hh];simp[this]
 . -- heap
   intro b m hm h1 h2 o ho;by_cases cj:own st r k b
   . have hkm:k<m:=by
      rcases ba k m with h|h
      . exact h
      . grind
     have hst:=T.stays (i:=k+1) (b:=b) (m:=m) ac hm (fun j hj1 hj2 hoj=>by
      have hSj:S j:=au;have hun:=hb2 j ac ac hSj;have sj:=T.step j il[j] am;rcases hoj with hoj|hoj
      . obtain⟨z,hz⟩:=sj.rD b hoj;have:=sj.off b z hz k hun ac;grind
      . have hlj:=T.iT (i:=k+1) (j:=j) ac ac;rcases cj with cj|cj
        . obtain⟨z,hz⟩:=sk.rD b cj;grind
        . omega)
     rw[hst,T.Qp hk cj]at ho;have hbl:b<H.length:=by
      have:=(aL.1 ho).1;have:=I.hlen;omega
     refine⟨?_,?_⟩
     . grind
     . have:=(m'.dJ b o ho).top (n:=hi) (fun b hb=>m'.fresh b ac);have:=T.iT (i:=k+1) (j:=m) ac hm;omega
   . have hno:ownb b=false:=by rw[cZ];exact au
     obtain⟨g1,g2⟩:=I.heap b m hm au au o ho;grind
 . -- slots
   intro y m hm h1 h2 v hv0;by_cases hy:eM io.dst y=true
   . have hkm:k<m:=by
      rcases ba k m with h|h
      . exact h
      . grind
     have hst:=T.Aj (i:=k+1) (y:=y) (m:=m) ac hm (fun j oj hj1 hj2 hoj=>by
      rw[cZ];intro hyj;have hSj:S j:=au;have hun:=hb2 j ac ac hSj;obtain⟨ok,cj,hapt⟩:=hap j oj hoj k hun;rw[hio]at cj;cases cj;simp only[pq,aY,Bool.not_eq_true']at hapt;have:=hapt.2;cases hd1:io.dst <;> cases hd2:oj.dst <;> cases y <;> simp[hd1,hd2,eM,FL]at hy hyj this
      . omega
      omega)
     rw[hst,T.GG hk,hioe]at hv0;have:=Qm hy hv0;subst this;refine⟨VS.Qk hd I.size hy hvn,.inr ?_⟩;have:=T.iT (i:=k+1) (j:=m) ac hm;grind
   . have hy':eM io.dst y=false:=by simpa using hy
     obtain⟨g1,g2⟩:=I.slot y m hm au au v hv0;exact⟨(g1.mono E).Ql hd hnd hy',g2⟩
 . rw[uu];cases dst <;> simp[I.size]
 . rw[←I.gI];unfold Act.put;grind
 . intro i hSi hi' j hj hbit;rcases hSi with hSi|rfl
   . exact .inl (I.Ak i hSi hi' j hj hbit)
   grind
end Go.Ab
namespace Go.Ab
variable {call:eC} {il:List bj} {st:Nat->aw} {h0:Nat->ae} {r:Nat->HR} {C:Cx} {bits:List Nat} {ρ0:aO} {w0:World} {df:List Deferred} {ops:Array Oper}
theorem Qr {α:Type}{l:List α}{i:Nat}{x:α}(h:l[i]? = some x):(x,i)∈l.zipIdx:=by
 grind
theorem GI (h:py ops.toList bits=true){i:Nat}{o:Oper}(ho:ops[i]? = some o) :
 (∀e∈o.after,Region.binds .any e=true->e.on<i)/\∀j,j<i->(bits.getD i 0).testBit j=true->∃e∈o.after,Region.binds .any e=true/\(e.on=j\/(j<e.on/\(bits.getD e.on 0).testBit j=true)):=by
 have:=ck.1 h (o,i) au;grind
theorem GJ {b i j:Nat}:j∈jG b i↔j<i/\b.testBit j=false:=by
 simp[jG]
theorem Qs (h:pz il bits=true)(i:Nat)(oi:bj)(ho:il[i]? = some oi):∀j∈jG (bits.getD i 0) i,∃oj,il[j]? = some oj/\pq oj oi=true:=by
 intro j hj;have:=ck.1 h (oi,i) (Qr ho)<;>grind
theorem Inv.step (hcall:mD C.P C.gl call)(T:nK call (fD C.P) il (fun k=>jG (bits.getD k 0) k) st h0 r)(hil:jX C ops.toList ops.toList=some il)(hbits:py ops.toList bits=true)(hdraw:pz il bits=true)
 (hnd:C.aV.Nodup) (hlt:∀t∈C.aV,t<C.N) (hpl:(st 0).s.pe.length=C.aV.length) (hgl:∀g v,C.gl g=some v->v.top<=(st 0).s.hp.length) {S:Nat->Prop} {ρ:aO} {H:ae} {a:Act} {w:World}
 (I:Inv C il st r bits ρ0 w0 df S ρ H a w) {k:Nat} {o:Oper} (ho:ops[k]? = some o) (hS:¬S k) (hready:∀e∈o.after,Region.binds .any e=true->S e.on) {ro:Option Nat} {K:Act->World->Prop} {Q:Exit->Act->World->Prop}
 (hK:∀ρn H' a' w',Inv C il st r bits ρ0 w0 df (fun i=>S i\/i=k) ρn H' a' w'->K a' w'):wpOpIn (FR ro) 0 C.P ops Q k K a w:=by
 obtain⟨hlen,hget⟩:=rC hil;obtain⟨io,hio,hoi⟩:=hget k o au;obtain⟨hd,hop,hg⟩:=Gz hoi;have hk:k<il.length:=(aL.1 hio).1;have sk:=T.step k io hio;obtain⟨hbb,hbt⟩:=GI hbits ho;have hb3:∀j,j<k->(bits.getD k 0).testBit j=true->S j:=by
  intro j hj hbit;obtain⟨e,he,hb,hor⟩:=hbt j hj hbit;have hSe:=hready e he hb;have hek:=hbb e he hb;rcases hor with rfl|hor
  . exact hSe
  . exact I.Ak e.on hSe ac j hor.1 hor.2
 have hb1:∀j,j<k->¬S j->j∈jG (bits.getD k 0) k:=by
  intro j hj hSj;rw[GJ];refine⟨hj,?_⟩;rw[cZ];exact au
 have hb2:∀j,k<j->j<il.length->S j->k∈jG (bits.getD j 0) j:=by
  intro j hj hjl hSj;rw[GJ];refine⟨hj,?_⟩;rw[cZ];exact fun hbit=>hS (I.Ak j hSj hjl k hj hbit)
 have hap:=Qs hdraw;have hkey:∀(b:Nat) x,(h0 k)[b]? = some (some x)->H[b]? = some (some x)/\x.top<=(st k).s.hp.length:=by
  intro b x hb;refine I.heap b k ac ?_ ?_ x (sk.known b x hb)
  . intro i hi hoi;rcases jz (S i) with h|h
    . exact h
    . have:=sk.off b x hb i (hb1 i hi h) hi;rcases hoi with hoi|hoi<;>grind
  . intro j hj hjl hSj hoj;have hne:j≠k:=au;have hun:=hb2 j ac hjl hSj;rcases hoj with hoj|hoj
    . exact(T.step j il[j] am).Qi k hun ac b hoj x hb
    . have h1:=(aL.1 hb).1;rw[sk.len]at h1;have:=T.iT (i:=k) (j:=j) ac ac<;>grind
 have hslot:∀y∈io.gU,∀v,(st k).s.ah y=some v->VS C ρ w a.tmps y v/\((∃c,y = .c c)\/v.top<=(st k).s.hp.length):=by
  intro y hy v hv;refine I.slot y k ac ?_ ?_ v hv
  . intro i oi hi hoi hs;rcases jz (S i) with h|h
    . exact h
    . obtain⟨oj,hoj,hapt⟩:=hap k io hio i (hb1 i hi h);rw[hoi]at hoj;cases hoj;simp only[pq,aY]at hapt<;>grind
  . intro j oj hj hoj hSj;have hne:j≠k:=au;have hjl:=(aL.1 hoj).1;obtain⟨ok,cj,hapt⟩:=hap j oj hoj k au;rw[hio]at cj;cases cj;simp only[pq,aY]at hapt<;>grind
 have jd:∀{x:AV} {v:Value},V ρ w x v->x.top<=(st k).s.hp.length->V (fc (st k).s.hp.length ρ) w x v:=fun hv ht=>
  hv.gM (fun b hb=>by simp only[fc];grind) (fun c hc=>hc.fc _) ht
 have hmem:Mem C.P C.gl (fc (st k).s.hp.length ρ) (h0 k) w:=by
  refine⟨?_,?_,?_,?_,?_,?_,?_⟩
  . intro b x hb;have h1:=(aL.1 hb).1;rw[sk.len]at h1;obtain⟨g1,g2⟩:=hkey b x hb;exact(I.mem.dJ b x g1).gM (fun b hb=>by simp only[fc];grind) (fun c hc=>hc.fc _) h1 g2
  . intro b hb;rw[sk.len]at hb;simp only[fc];grind
  . intro b b' c d d' h1 h2;simp only[fc]at h1 h2;split at h1
    . split at h2
      . exact I.mem.inj _ _ _ _ _ h1 h2
      grind
    grind
  . intro b c d h1;simp only[fc]at h1;split at h1
    . exact I.mem.bound _ _ _ h1
    grind
  . rintro c (hc|⟨b,d,_,hb⟩)
    . exact I.mem.xb c hc
    . exact I.mem.bound _ _ _ hb
  . intro b c d h1 hX;simp only[fc]at h1;split at h1
    . rename_i hlt';rcases hX with hX|⟨b',d',hge,hb'⟩
      . exact I.mem.xo _ _ _ h1 hX
      . have:=I.mem.inj _ _ _ _ _ h1 hb'<;>grind
    grind
  . intro g v hg';refine jd (I.mem.gl g v hg') ?_;have:=hgl g v hg';have:=T.iT (i:=0) (j:=k) ac ac;omega
 have hrel:Rel C (fc (st k).s.hp.length ρ) (restrict io.gU (st k).s (h0 k)) a w:=by
  refine⟨Qo I.size hnd hlt (by rw[T.GH ac];exact hpl) ?_ _,hmem⟩;intro y hy v hv;obtain⟨g1,g2⟩:=hslot y hy v hv;cases y with
  | p i=>exact fun t ht=>jd (g1 t ht) au
  | l t=>exact⟨g1.1,g1.2.1,jd g1.2.2 au⟩
  | c _=>trivial
 have hfin:∀(v':Value) (w':World) (ρ':aO),V ρ' w' (r k).v v'->Mem C.P C.gl ρ' (r k).h w'->Ext (h0 k) (r k).h (fc (st k).s.hp.length ρ) ρ' w w'->K (a.put o.dst v') w':=by
  intro v' w' ρ' hv m' x;obtain⟨ρn,H',I'⟩:=Inv.after T I hnd hio hS hap hb1 hb2 hb3 au hd hv m' x;exact au
 obtain⟨b,hw,hb1',hb0'⟩:=sk.wanted;have hwr:fa (restrict io.gU (st k).s (h0 k)) io.guard=some b:=by
  rw[←hw];unfold fa;cases hgd:io.guard with
  | none=>rfl
  | some g=>
   obtain⟨y,want⟩:=g;simp only;rw[GD (s:=(st k).s) (y:=y) (us:=io.gU) (by simp[bj.gU,hgd])]
 have hwant:=Ad hrel hg hwr;unfold wpOpIn;rw[ho];simp only[hwant];cases b with
 | true=>
  simp only[if_true];have hq:cm call (fD C.P) (restrict io.gU (st k).s (h0 k)) io.op=some (r k):=by
   rw[←hb1' rfl];refine Gy rfl fun y hy=>?_
   rw[GD (by simp[bj.gU,hy])];cases y <;> rfl
  refine Gv hcall hrel hop hq ?_;rintro v' w' ⟨ρ',hv,m',x⟩;exact hfin v' w' ρ' hv m' x
 | false=>
  simp only[bA,if_false];refine⟨fun _ _=>trivial,?_⟩;have e:=hb0' rfl;refine hfin undef w (fc (st k).s.hp.length ρ) ?_ ?_ ?_
  . grind[V.undef]
  . grind
  grind[Ext.refl]
end Go.Ab
namespace Go.Ab
variable {call:eC} {il:List bj} {st:Nat->aw} {h0:Nat->ae} {r:Nat->HR} {C:Cx} {bits:List Nat} {ρ0:aO} {w0:World} {df:List Deferred} {ops:Array Oper}
theorem all_true (l:List Bool)(h:l.count false=0)(i:Nat)(hi:i<l.length):l[i]? = some true:=by
 grind
theorem Qt (hcall:mD C.P C.gl call)(T:nK call (fD C.P) il (fun k=>jG (bits.getD k 0) k) st h0 r)(hil:jX C ops.toList ops.toList=some il)(hbits:py ops.toList bits=true)(hdraw:pz il bits=true)
 (hnd:C.aV.Nodup) (hlt:∀t∈C.aV,t<C.N) (hpl:(st 0).s.pe.length=C.aV.length) (hgl:∀g v,C.gl g=some v->v.top<=(st 0).s.hp.length) {ro:Option Nat} {Q:Exit->Act->World->Prop}
 (hQ:∀(S:Nat->Prop) ρ H a w,(∀i,i<il.length->S i)->Inv C il st r bits ρ0 w0 df S ρ H a w->Q .normal a w) :
 ∀(fuel:Nat) (listed:Array Bool) (ρ:aO) (H:ae) (a:Act) (w:World),listed.size=ops.size->Inv C il st r bits ρ0 w0 df (fun i=>listed[i]? = some true) ρ H a w->listed.toList.count false<=fuel ->
  wpAnyIn (FR ro) 0 C.P .any ops Q fuel listed a w:=by
 have hlen:il.length=ops.size:=by have:=(rC hil).1;simpa using this
 intro fuel;induction fuel with
 | zero=>
  intro listed ρ H a w hsz I hc;have hall:∀i,i<ops.size->listed[i]? = some true:=fun i hi=>by
   have:=all_true listed.toList ac i au;grind
  refine⟨?_,hQ _ ρ H a w au I⟩;rw[List.eq_nil_iff_forall_not_mem];intro i hi;obtain⟨h1,o,h2,_⟩:=mem_ready.1 hi;have hi':=(gu.1 h2).1<;>simp_all
 | succ fuel ih=>
  intro listed ρ H a w hsz I hc;refine⟨fun hr=>?_,fun k hk=>?_⟩
  . refine hQ _ ρ H a w (fun i=>?_) I;induction i using iK with
    | _ i ihi=>
     intro hi;have hi':i<ops.size:=by omega
     have hl:i<listed.size:=by omega
     cases hq:listed[i] with
     | true=>grind
     | false=>
      exfalso;have:i∈Region.ready .any ops listed:=by
       rw[mem_ready];refine⟨by simp_all,ops[i],am,fun e he hb=>?_⟩;have hon:=(GI (bits:=bits) hbits (i:=i) (o:=ops[i]) am).1 e he hb;have:=ihi e.on hon ac;rw[bN,this];rfl
      grind
  . obtain⟨h1,o,h2,h3⟩:=mem_ready.1 hk;have hk':=(gu.1 h2).1;have hl:k<listed.size:=by omega
    have hkf:listed[k]? = some false:=by
     rw[bN]at h1;cases hq:listed[k]? with
     | none=>grind
     | some b=>grind
    refine Inv.step hcall T hil hbits hdraw hnd hlt hpl hgl I h2 au (fun e he hb=>?_) ?_
    . have:=h3 e he hb;rw[bN]at this;grind
    grind
theorem Qu (hcall:mD C.P C.gl call)(hmix:C.P.follows .mixedOrders=true)(hwr:∀g as h r,call g as h=some r->fO h r){ro:Option Nat}{id:Nat}{ρ:aO}{a:Act}{w:World}(hil:jX C ops.toList ops.toList=some il)(hbits:py ops.toList bits=true)(hdraw:pz il bits=true)
 {Q:Exit->Act->World->Prop} {s s':aw} (rel:Rel C ρ s.s a w) (hq:eu call (fD C.P) (il.zipIdx.map fun (o,i)=>(o,jG (bits.getD i 0) i)) ⟨{ s.s with lo:=[] },s.wr⟩ []=some s')
 (hQ:∀ρ' a' w',Rel C ρ' s'.s a' w'->Ext s.s.hp s'.s.hp ρ ρ' w w'->a'.defers=a.defers->s'.s.cF=s.s.cF->Q .normal a' w'):(Code.region id ops true).wpIn (FR ro) 0 C.P Q a w:=by
 obtain⟨hlen,hget⟩:=rC hil;have hlen':il.length=ops.size:=by simpa using hlen
 obtain⟨st,h0,r,_,e2,e3,e4⟩:=trace _ _ [] s' (fun _=>s) (fun _=>[]) (fun _=>⟨.dI,[],[]⟩) (by intro j d hj;simp at hj) hq;simp only[d7,hZ,j8,List.length_zipIdx]at e2 e3 e4;have T:nK call (fD C.P) il (fun k=>jG (bits.getD k 0) k) st h0 r:=by
  refine⟨fun k o ho=>e4 k o _ ?_,hwr⟩;rw[c9,List.getElem?_zipIdx,ho];simp
 have hst0:(st 0).s.hp=s.s.hp:=by rw[e2]
 have hpe0:(st 0).s.pe=s.s.pe:=by rw[e2]
 have hn:(st il.length)=s':=e3;have er:=rel.er;have hgl:∀g v,C.gl g=some v->v.top<=(st 0).s.hp.length:=fun g v hg=>by
  rw[hst0];exact(rel.mem.gl g v hg).top fun b hb=>rel.mem.fresh b hb
 refine wpIn_region_any hmix ?_;have md:=rel.mem.drew (w.drawn+1);have xd:=Ext.drew s.s.hp ρ w (w.drawn+1);have hmono:=T.iT (i:=0) (j:=il.length) ac (b9 _);let H0:ae:=s.s.hp++dw ((st il.length).s.hp.length-s.s.hp.length) (some .hole)
 have hH0:∀b,H0[b]? = if b<s.s.hp.length then s.s.hp[b]? else if b<(st il.length).s.hp.length then some (some .hole) else none:=by
  intro b;simp only[H0];rw[iX];split
  . rfl
  . grind
 have hH0len:H0.length=(st il.length).s.hp.length:=by
  simp only[H0];rw[hst0]at hmono;simp;omega
 have hext:Ext (st 0).s.hp H0 ρ ρ w { w with drawn:=w.drawn+1 }:=by
  rw[hst0];refine⟨xd.os,xd.tape,xd.output,xd.size,au,rfl,?_,xd.same,xd.live,xd.dead,xd.nil,xd.dc,xd.back,xd.shape⟩;intro b hb;rw[hH0 b,if_pos (aL.1 hb).1];exact hb
 have hmem:Mem C.P C.gl ρ H0 { w with drawn:=w.drawn+1 }:=by
  refine⟨?_,?_,md.inj,md.bound,md.xb,md.xo,md.gl⟩
  . intro b o hb;rw[hH0 b]at hb;split at hb
    . exact md.dJ b o hb
    . split at hb
      . cases hb;exact md.fresh b ac
      grind
  . intro b hb;rw[hH0len]at hb;rw[hst0]at hmono;exact md.fresh b ac
 have init:Inv C il st r bits ρ w a.defers (fun i=>(iM ops.size false)[i]? = some true) ρ H0 a { w with drawn:=w.drawn+1 }:=by
  have hnone:∀i:Nat,¬(iM ops.size false)[i]? = some true:=by
   intro i h;rw[Array.getElem?_replicate]at h;split at h <;> cases h
  refine⟨hH0len,hmem,hext,?_,?_,?_,er.size,rfl,?_⟩
  . intro k hk _ b h1 h2;have g1:=T.iT (i:=0) (j:=k) ac ac;have g2:=T.uw hk;have g3:=T.iT (i:=k+1) (j:=il.length) ac (b9 _)<;>grind
  . intro b k hk h1 _ o ho;have hst:=T.stays (i:=0) (b:=b) (m:=k) ac hk au;rw[hst,hst0]at ho;have hlt:=(aL.1 ho).1;refine⟨au,?_⟩;have h3:=(rel.mem.dJ b o ho).top (n:=s.s.hp.length) fun b hb=>rel.mem.fresh b hb
    have g1:=T.iT (i:=0) (j:=k) ac hk<;>grind
  . intro y k hk h1 _ v hv;have hst:=T.Aj (i:=0) (y:=y) (m:=k) ac hk au;rw[hst,e2]at hv;have g1:=T.iT (i:=0) (j:=k) ac hk;rw[hst0]at g1;cases y with
    | p i=>
     simp only[St.ah]at hv;have hi:=(aL.1 hv).1;have hp:=er.kG;refine⟨fun t ht=>(er.pe i v t hv ht).mono xd,.inr ?_⟩;have h3:=(er.pe i v C.aV[i] hv am).top (n:=s.s.hp.length) fun b hb=>rel.mem.fresh b hb<;>grind
    | l t=>simp[St.ah]at hv
    | c c=>exact⟨trivial,.inl ⟨c,rfl⟩⟩
  . grind
 refine Qt hcall T hil hbits hdraw er.nodup er.lt (by rw[hpe0];exact er.kG) hgl (ρ0:=ρ) (w0:=w) (df:=a.defers) ?_ ops.size _ ρ H0 a _ am init ?_
 . intro S ρ1 H a1 w1 hall I;have hblk:∀b o,(st il.length).s.hp[b]? = some (some o)->H[b]? = some (some o):=fun b o ho=>
    (I.heap b il.length (b9 _) au ac o ho).1
   have hslot:∀y v,(st il.length).s.ah y=some v->VS C ρ1 w1 a1.tmps y v:=fun y v hv=>
    (I.slot y il.length (b9 _) au (fun j o hj ho=>by
     grind) v hv).1
   rw[hn]at hblk hslot;have hl1:H.length=s'.s.hp.length:=by rw[I.hlen,hn]
   refine hQ ρ1 a1 w1 ⟨⟨I.size,er.nodup,er.lt,?_,fun i v t hv ht=>hslot (.p i) v hv t ht,fun t v hv=>hslot (.l t) v hv⟩,?_⟩ ?_ I.gI ?_
   . rw[←hn,T.GH (b9 _),hpe0];exact er.kG
   . exact⟨fun b o hb=>I.mem.dJ b o (hblk b o hb),fun b hb=>I.mem.fresh b ac,I.mem.inj,I.mem.bound,I.mem.xb,I.mem.xo,I.mem.gl⟩
   . have x:=I.ext;rw[hst0]at x;refine⟨x.os,x.tape,x.output,x.size,au,x.X,fun b hb=>?_,x.same,x.live,x.dead,x.nil,x.dc,x.back,x.shape⟩;rw[←hn];exact T.dI au (b9 _)
   . rw[←hn,T.cF (b9 _),e2]
 simp
end Go.Ab
namespace Go.Ab
variable {c:Code}
variable {P:Program} {gl:Nat->Option AV} {ρ:aO} {w:World} {h:ae} {C:Cx} {s:St} {a:Act}
section scope
variable {F:Fence} {n:Nat} {b:Frame} {k:List Item} {cs:List Frame} {Q:Exit->Act->World->Prop}
theorem pH:step P (lone (b.atR a (.code (.scope c)::k)) cs w) = .next (lone (b.atR a (.code c :: .inScope c::k)) cs w):=
 (by rfl)
theorem Qv:step P (lone (b.atR a (.inScope c::k)) cs w) = .next (lone (b.atR a k) cs w):=
 (by rfl)
def noGoto (Q:Exit->Act->World->Prop):Exit->Act->World->Prop
 | .goto _,_,_=>False
 | e,a,w=>Q e a w
theorem Qw (h:c.wpIn F n P (noGoto Q) a w):(Code.scope c).wpIn F n P Q a w:=by
 intro b k cs hro hb hr;have h0:(lone (b.atR a (.code (.scope c)::k)) cs w).fenced P F:=fenced_calm hb hr rfl;obtain⟨e,a₁,w₁,hq,harr⟩:=h b (.inScope c::k) cs hro hb hr;cases e with
 | normal=>exact⟨.normal,a₁,w₁,hq,.head h0 pH (StepsIn.trans harr (.one (fenced_calm hb hr rfl) Qv))⟩
 | exit id=>exact⟨_,a₁,w₁,hq,fun k' hk=>.head h0 pH (harr.1 k' (by simp[exitTo,hk])),
     fun hr' hk=>let ⟨k₁,h1,h2⟩:=harr.2 hr' (by simp[exitTo,hk]);⟨k₁,h1,.head h0 pH h2⟩⟩
 | goto l=>exact hq.elim
 | ret=>exact⟨_,a₁,w₁,hq,.of_steps (.one h0 pH) harr⟩
 | panic ch=>exact⟨_,a₁,w₁,hq,.of_steps (.one h0 pH) harr⟩
 | outgrown=>exact⟨_,a₁,w₁,hq,.of_steps (.one h0 pH) harr⟩
end scope
def fU (s s':aw):Prop:=s.s.hp.length<=s'.s.hp.length/\(∀b∈s.wr,b∈s'.wr)/\∀b,b<s.s.hp.length->b∉s'.wr->s'.s.hp[b]? = s.s.hp[b]?
theorem fU.refl (s:aw):fU s s:=⟨b9 _,fun _ h=>h,fun _ _ _=>rfl⟩
theorem fU.trans {s s1 s2:aw}(x:fU s s1)(y:fU s1 s2):fU s s2:=
 ⟨Nat.le_trans x.1 y.1,fun b hb=>y.2.1 b (x.2.1 b hb),fun b hb hn=>by
  rw[y.2.2 b (d8 hb x.1) hn,x.2.2 b hb (fun h=>hn (y.2.1 b h))]⟩
theorem fU.step {s:aw}{q:HR}{x:St}(hx:x.hp=q.h)(hq:fO s.s.hp q):fU s ⟨x,q.wr++s.wr⟩:=
 ⟨by rw[hx];exact hq.1,fun b hb=>au,fun b hb hn=>by
  simp only[cP,not_or]at hn;show x.hp[b]? = _;rw[hx];exact hq.2 b hb hn.1⟩
theorem fU.same {s:aw}{x:St}(hx:x.hp=s.s.hp):fU s ⟨x,s.wr⟩:=⟨au,fun _ h=>h,fun b _ _=>by grind⟩
theorem Al (s:St)(d:fC)(v:AV):(s.put d v).hp=s.hp:=by cases d <;> rfl
theorem Am {call:eC}{inv:fg}(hcall:∀g as h r,call g as h=some r->fO h r):∀(l:List bj) (s s':aw),fz call inv l s=some s'->fU s s'
 | [],s,s',h=>by cases h;exact .refl _
 | o::l,s,s',h=>by
  simp only[fz]at h;split at h
  . split at h
    . rename_i q hq;exact(fU.step rfl (Af hcall hq)).trans (Am hcall l _ s' h)
    . cases h
  . exact(fU.same (Al _ _ _)).trans (Am hcall l _ s' h)
  . cases h
theorem An {call:eC}{inv:fg}:∀(l:List bj) (s s':aw),fz call inv l s=some s'->s'.s.cF=s.s.cF
 | [],s,s',h=>by cases h;rfl
 | o::l,s,s',h=>by
  have hp:∀(s:St) (d:fC) (v:AV),(s.put d v).cF=s.cF:=fun s d v=>by cases d <;> rfl
  simp only[fz]at h;split at h
  . split at h
    . exact(An l _ s' h).trans (hp _ _ _)
    . cases h
  . exact(An l _ s' h).trans (hp _ _ _)
  . cases h
theorem Qx {call:eC}{inv:fg}(hcall:∀g as h r,call g as h=some r->fO h r){l:List (bj×List Nat)}{s s':aw}(h:eu call inv l s []=some s'):fU s s':=by
 obtain⟨st,h0,r,_,e2,e3,e4⟩:=trace l s [] s' (fun _=>s) (fun _=>[]) (fun _=>⟨.dI,[],[]⟩) (by intro j d hj;simp at hj) h;simp only[d7,hZ]at e2 e3 e4;have key:∀k,k<=l.length->fU (st 0) (st k):=by
  intro k;induction k with
  | zero=>intro _;exact .refl _
  | succ k ih=>
   intro hk;refine(ih ac).trans ?_;have sk:=e4 k l[k].1 l[k].2 (aR ac);have hwr:fO (h0 k) (r k):=by
    obtain⟨b,_,h1,h2⟩:=sk.wanted;cases b with
    | true=>exact Af hcall (h1 rfl)
    | false=>rw[h2 rfl];exact pG _
   have hl:(st k).s.hp.length<=(r k).h.length:=by have:=hwr.1;rw[sk.len]at this;exact this
   rw[sk.next];refine⟨by grind[rB],fun b hb=>au,fun b hb hn=>?_⟩;simp only[cP,not_or]at hn;show (fN (r k).wr (st k).s.hp (r k).h 0)[b]? = _;rw[kc _ _ _ _ _ hl,if_pos hb];grind
 grind
def DF (ρ:aO)(ds:List Nat)(l:List Deferred):Prop:=
 ds.length=l.length/\∀(i:Nat) b d,ds[i]? = some b->l[i]? = some d->∃c,d = { target:=.collected c,args:=#[] }/\(ρ b = .live c 0\/ρ b = .dead)
theorem DF.mono {h h':ae}{ρ ρ':aO}{w w':World}(x:Ext h h' ρ ρ' w w'){ds:List Nat}{l:List Deferred}(hd:DF ρ ds l):DF ρ' ds l:=
 ⟨hd.1,fun i b d h1 h2=>by
  obtain⟨c,h3,h4⟩:=hd.2 i b d h1 h2;refine⟨c,h3,?_⟩;rcases h4 with h4|h4
  . exact x.live _ _ _ h4
  . exact .inr (x.dead _ h4)⟩
theorem Ao:∀(ds:List Nat) (s s':aw),lj ds s=some s'->fU s s'/\s'.s.pe=s.s.pe/\s'.s.lo=s.s.lo
 | [],s,s',h=>by cases h;exact⟨.refl _,rfl,rfl⟩
 | d::ds,s,s',h=>by
  simp only[lj]at h;split at h
  . obtain⟨h1,h2,h3⟩:=Ao ds _ s' h;refine⟨fU.trans ⟨by simp[ae.put],fun b hb=>au,fun b hb hn=>?_⟩ h1,h2,h3⟩;simp only[b6,not_or]at hn;exact mr hn.1
  . cases h
theorem GK {F:Fence}{n:Nat}{fn:Func}{tmps:Array Value}{R:Ending->World->Prop}:∀(ds:List Nat) (l:List Deferred) (s s':aw) (w:World),DF ρ ds l->Mem P gl ρ s.s.hp w->lj ds s=some s' ->
 (∀w',Mem P gl ρ s'.s.hp w'->Ext s.s.hp s'.s.hp ρ ρ w w'->LeavesInM F n P fn tmps R [] .returning w')->LeavesInM F n P fn tmps R l .returning w
 | [],l,s,s',w,hd,m,hq,hk=>by
  have:l=[]:=by have:=hd.1;cases l <;> simp_all
  subst this;cases hq;grind[Ext.refl]
 | b::ds,[],s,s',w,hd,m,hq,hk=>by have:=hd.1;grind
 | b::ds,d::l,s,s',w,hd,m,hq,hk=>by
  simp only[lj]at hq;split at hq
  . rename_i hb;have h0:=pF hb;obtain⟨c,g1,g2⟩:=m.dJ b _ h0;obtain⟨c',g3,g4⟩:=hd.2 0 b d rfl rfl;have:c'=c:=by
     rcases g4 with g4|g4
     . grind
     . grind
    subst this;have hO:∀cs0 e0 fr0,w.heap[c']? = some (.cells cs0 e0 fr0)->∃cs' fr',Obj.deferred none = .cells cs' e0 fr'/\cs'.size=cs0.size:=by
     intro _ _ _ hq';rw[g2]at hq';cases hq'
    have x:=Ext.write m h0 g1 none (.deferred none) hO;have m1:=Mem.write m h0 g1 none (.deferred none) hO am;refine⟨am,.inl ⟨c',w.dS c' (.deferred none),by rw[g3],?_,?_⟩⟩
    . simp[Instr.takeDeferred,mA g2,nF g2]
    . exact GK ds l _ s' _ ⟨by have:=hd.1;grind,fun i b d h1 h2=>hd.2 (i+1) b d au au⟩ m1 hq
       fun w' m' x'=>hk w' m' (x.trans x')
  grind
theorem GL {ρ ρ':aO}{w w':World}{h:ae}(m:Mem P gl ρ h w){s:aw}(hwr:h.length<=s.s.hp.length/\∀b,b<h.length->b∉s.wr->s.s.hp[b]? = h[b]?){v:AV}{v':Value}(hv:V ρ' w' v v')(m':Mem P gl ρ' s.s.hp w')(x:Ext h s.s.hp ρ ρ' w w') :
 fo P gl ρ h w (gm v h.length s) v' w':=by
 unfold gm;split
 . rename_i hc;simp only[aY,decide_eq_true_eq]at hc;obtain⟨htop,htight⟩:=hc;have hb:∀b,b<h.length->ρ b≠.fresh->True:=am;have cut_lt:∀b,b<h.length->(jn h.length ρ') b=ρ' b:=fun b hb=>by simp only[jn];grind
   have cut_ge:∀b,h.length<=b->(jn h.length ρ') b = .fresh:=fun b hb=>by simp only[jn];grind
   have dc:∀b,ρ b≠.fresh->b<h.length:=fun b hb=>by
    rcases ba b h.length with h'|h'
    . exact h'
    . exact absurd (m.fresh b h') hb
   have get:∀b,(s.s.hp.take h.length)[b]? = if b<h.length then s.s.hp[b]? else none:=fun b=>by
    grind
   refine⟨jn h.length ρ',hv.cut htop,?_,?_⟩
   . refine⟨?_,?_,?_,?_,m'.xb,?_,fun g u hg=>(m'.gl g u hg).cut ?_⟩
     . intro b o hb;rw[get b]at hb;split at hb
       . rename_i hlt;refine(m'.dJ b o hb).gM (n:=h.length) cut_lt (fun c hc=>hc.cut _) hlt ?_;rcases jz (b∈s.wr) with hw|hw
         . have:=ck.1 htight b hw;unfold ae.at at this;grind
         . rw[hwr.2 b hlt hw]at hb;exact(m.dJ b o hb).top au
       grind
     . grind
     . intro b b' c d d' h1 h2;simp only[jn]at h1 h2;split at h1
       . split at h2
         . exact m'.inj _ _ _ _ _ h1 h2
         grind
       grind
     . intro b c d h1;simp only[jn]at h1;split at h1
       . exact m'.bound _ _ _ h1
       grind
     . intro b c d h1;simp only[jn]at h1;split at h1
       . exact m'.xo _ _ _ h1
       grind
     . exact(m.gl g u hg).top au
   . refine⟨x.os,x.tape,x.output,x.size,au,x.X,?_,?_,?_,?_,?_,x.dc,?_,x.shape⟩
     . intro b hb;have hlt:=(aL.1 hb).1;rw[get b,if_pos hlt];exact x.dI b hb
     . intro b hb;have hlt:=(aL.1 hb).1;rw[cut_lt b hlt];exact x.same b hb
     . intro b c d hb;rw[cut_lt b au];exact x.live b c d hb
     . intro b hb;rw[cut_lt b au];exact x.dead b hb
     . intro b hb;rw[cut_lt b au];exact x.nil b hb
     . intro b c d hb hc;simp only[jn]at hb;split at hb
       . exact x.back b c d hb hc
       grind
 . exact⟨ρ',hv,m',x⟩
theorem GM {h:ae}{s:aw}(hwr:h.length<=s.s.hp.length/\∀b,b<h.length->b∉s.wr->s.s.hp[b]? = h[b]?)(v:AV):fO h (gm v h.length s):=by
 unfold gm;have key:∀b,b<h.length->b∉s.wr.filter (· < h.length)->b∉s.wr:=by
  intro b hb hn hm;exact au
 split
 . refine⟨au,fun b hb hn=>?_⟩;grind
 . exact⟨hwr.1,fun b hb hn=>au⟩
end Go.Ab
namespace Go.Ab
variable {P:Program} {gl:Nat->Option AV} {ρ:aO} {w:World} {h:ae} {C:Cx} {s:St} {a:Act}
def uy:Ex->Exit
 | .normal=>.normal
 | .exit i=>.exit i
 | .ret=>.ret
structure lG (P:Program)(gl:Nat->Option AV)(run:ao->aw->Option (Ex×aw)):Prop where
 wr:∀c s e s',run c s=some (e,s')->fU s s'
 ok:∀c s e s',run c s=some (e,s')->∀aV N rd code,fR ⟨P,gl,aV,N⟩ rd code=some c->∀ρ a w ro,Rel ⟨P,gl,aV,N⟩ ρ s.s a w->DF ρ s.s.cF a.defers->(rd=false->ro=none) ->
  ∀Q:Exit->Act->World->Prop,(∀ρ' a' w',Rel ⟨P,gl,aV,N⟩ ρ' s'.s a' w'->DF ρ' s'.s.cF a'.defers->Ext s.s.hp s'.s.hp ρ ρ' w w'->Q (uy e) a' w')->code.wpIn (FR ro) 0 P Q a w
def mE (P:Program)(gl:Nat->Option AV)(FT:FuncId->Option dh):Prop:=
 ∀f fi, FT f = some fi -> ∃fn aV, P.funcs[f]? = some fn /\ (fn.name == "runtime.NumGoroutine") = false /\ ub P gl aV fn = some fi
def cY (P:Program)(gl:Nat->Option AV)(ext:FuncId->List AV->ae->Option HR):Prop:=
 ∀f all h r,ext f all h=some r->fO h r/\∀ρ w (as':List Value),Mem P gl ρ h w->VL ρ w all as' ->
  ∃nx w1,(callFunc f as'.toArray).run P w = .ok nx w1/\jH P nx w1 fun v w'=>fo P gl ρ h w r v w'
theorem Qy {aV:List Nat}{fn:Func}{fi:dh}(h:ub P gl aV fn=some fi) :
 ∃c,fn.body=some c/\fR ⟨P,gl,aV,fn.ntmps⟩ false c=some fi.body/\lC ⟨P,gl,aV,fn.ntmps⟩ fn.results.toList=some fi.results/\fi.aV=aV/\fi.N=fn.ntmps/\(∀t∈aV,t<fn.ntmps)/\aV.Nodup:=by
 unfold ub at h;grind
def uz (tmps:Array Value):ResultVar->Sem Value
 | .tmp t=>pure (tmps.getD t undef)
 | .cell p t=>do loadVar t (←asAddr (tmps.getD p undef))
theorem Ap (r:Rel C ρ s a w):∀(l:List ResultVar) (cr:List fK) (vs:List AV),lC C l=some cr->dU s cr=some vs ->
 ∃m:List Value,(l.mapM (uz a.tmps)).run C.P w = .ok m w/\VL ρ w vs m
 | [],cr,vs,h1,h2=>by
  simp only[lC,bI.injEq]at h1;subst h1;simp only[dU,bI.injEq]at h2;subst h2;exact⟨[],am,.nil⟩
 | .tmp t::l,cr,vs,h1,h2=>by
  simp only[lC]at h1;split at h1
  . rename_i x l' hx hl;cases h1;simp only[dU]at h2;split at h2
    . rename_i v vs' hv hvs;cases h2;obtain⟨m,h3,h4⟩:=Ap r l l' vs' hl hvs;refine⟨a.tmps.getD t undef::m,?_,.cons (r.ah hx hv) h4⟩;rw[j9];simp only[uz,cT,dL,b7];rw[h3];rfl
    . cases h2
  . cases h1
 | .cell p t::l,cr,vs,h1,h2=>by
  simp only[lC]at h1;split at h1
  . rename_i x n ag l' hx hs hl;cases h1;simp only[dU]at h2;split at h2
    . rename_i v vs' hv hvs;cases h2;obtain⟨m,h3,h4⟩:=Ap r l l' vs' hl hvs;simp only[Option.bind_eq_some_iff]at hv;obtain⟨px,g1,pl,g2,g3⟩:=hv;obtain⟨c,o,g,e1,e2⟩:=readable r.mem (r.ah hx g1) g2;obtain⟨v',e3,e4⟩:=Gh hs e2 g3;have e1':a.tmps.getD p undef = .pointer (some ⟨c,o,none⟩):=e1;refine⟨v'::m,?_,.cons e4 h4⟩;rw[j9];simp only[uz,cT,e1',asAddr,dL,b7,e3]<;>simp_all
    grind
  grind
theorem Qz {vs:List AV}{m:List Value}(h:VL ρ w vs m):V ρ w (aT vs) (if h:m.toArray.size=1 then m.toArray[0] else .tuple m.toArray):=by
 match vs,m,h with
 | [],m,h=>rw[h.jY];exact V.iS .nil
 | [v],m,h=>
  obtain⟨y,m',rfl,h1,h2⟩:=h.cons_inv;rw[h2.jY];exact h1
 | v::u::vs,m,h=>
  obtain⟨y,m',rfl,h1,h2⟩:=h.cons_inv;obtain⟨z,m'',rfl,h3,h4⟩:=h2.cons_inv;rw[dif_neg am];exact V.iS ac
theorem QA (r:Rel C ρ s a w){fn:Func}{cr:List fK}{vs:List AV}(h1:lC C fn.results.toList=some cr)(h2:dU s cr=some vs) :
 ∃v,(results fn a.tmps).run C.P w = .ok v w/\V ρ w (aT vs) v:=by
 obtain⟨m,h3,h4⟩:=Ap r fn.results.toList cr vs h1 h2;refine⟨_,?_,Qz h4⟩;have e:results fn a.tmps=(do let vs ←fn.results.mapM (uz a.tmps);pure (if h:vs.size=1 then vs[0] else .tuple vs)):=by
  unfold results;congr 1
 rw[e,cT,Array.mapM_eq_mapM_toList,Sem.run_map,h3];rfl
theorem QB {aV:List Nat}{N:Nat}{all:List AV}{as':List Value}(hv:VL ρ w all as')(hn:as'.length<=N)(hlt:∀t∈aV,t<N)(hnd:aV.Nodup) :
 ER ⟨P,gl,aV,N⟩ ρ w (aV.map fun t=>(all[t]?).getD cV) [] (as'.toArray++iM (N-as'.toArray.size) undef):=by
 refine⟨au,hnd,hlt,am,fun i v t h1 h2=>?_,am⟩;simp only[c9,be]at h1;obtain⟨u,h3,rfl⟩:=h1;have h2':aV[i]? = some t:=h2;rw[h3]at h2';obtain rfl:u=t:=au;rw[bN,Array.getElem?_append];split
 . rename_i hlt';have hl:u<as'.length:=by simpa using hlt'
   have hl2:u<all.length:=by rw[hv.length];exact hl
   have:=hv.2 u all[u] as'[u] (aR hl2) (aR hl)<;>grind
 . rename_i hge;have hl:as'.length<=u:=by simpa using hge
   have hl2:all.length<=u:=by rw[hv.length];exact hl
   grind[fW,V.undef]
theorem GN {run:ao->aw->Option (Ex×aw)}(hrun:lG P gl run){FT:FuncId->Option dh}{f:FuncId}{all:List AV}{h:ae}{q:HR}(hq:gW run FT f all h=some q):fO h q:=by
 unfold gW at hq;split at hq <;> try (cases hq;done)
 split at hq <;> try (cases hq;done)
 split at hq <;> try (cases hq;done)
 rename_i e s hr;split at hq <;> try (cases hq;done)
 split at hq <;> try (cases hq;done)
 rename_i s2 ht;split at hq <;> try (cases hq;done)
 cases hq;have h1:=hrun.wr _ _ _ _ hr;have h2:=(Ao _ _ _ ht).1;have h3:=h1.trans h2;exact GM ⟨h3.1,fun b hb hn=>h3.2.2 b hb hn⟩ _
theorem uA {run:ao->aw->Option (Ex×aw)}(hrun:lG P gl run){FT:FuncId->Option dh}(hFT:mE P gl FT){f:FuncId}{all:List AV}{h:ae}{q:HR}(hq:gW run FT f all h=some q)
 {as':List Value} (m:Mem P gl ρ h w) (hv:VL ρ w all as') :
 (callFunc f as'.toArray).run P w = .ok (.enter f as'.toArray) w/\CallsIn Fence.wide 0 P f as'.toArray w fun
   | .returned v,w'=>fo P gl ρ h w q v w'
   | _,_=>False:=by
 unfold gW at hq;split at hq <;> try (cases hq;done)
 rename_i fi hfi;obtain⟨fn,aV,hfn,hname,hcf⟩:=hFT f fi hfi;obtain⟨c,hbody,hcode,hres,rfl,hN,hlt,hnd⟩:=Qy hcf;split at hq <;> try (cases hq;done)
 rename_i hnl;split at hq <;> try (cases hq;done)
 rename_i e s hr;split at hq <;> try (cases hq;done)
 rename_i he;split at hq <;> try (cases hq;done)
 rename_i s2 ht;split at hq <;> try (cases hq;done)
 rename_i vs hvs;cases hq;refine⟨?_,?_⟩
 . have hne : fn.name ≠ "runtime.NumGoroutine" := by simpa using hname
   simp[callFunc,hfn,hne,hbody]
 . refine callsIn_of_wp_marks (F:=Fence.wide) (n:=0) hfn hbody trivial ?_;have hlen:as'.length<=fn.ntmps:=by rw[←hv.length];omega
   have er:=QB (P:=P) (gl:=gl) hv hlen hlt hnd;refine hrun.ok _ _ _ _ hr fi.aV fn.ntmps false c hcode ρ _ w none ⟨er,m⟩ ⟨rfl,am⟩ (fun _=>rfl) _ ?_;intro ρ' a' w' r' d' x';have hfin:LeavesInM Fence.wide 0 P fn a'.tmps (fun
    | .returned v,w'=>fo P gl ρ h w (gm (aT vs) h.length s2) v w'
    | _,_=>False) a'.defers .returning w':=by
    refine GK s.s.cF a'.defers s s2 w' d' r'.mem ht ?_;intro w2 m2 x2;have hx:=Ao _ _ _ ht;have r2:Rel ⟨P,gl,fi.aV,fn.ntmps⟩ ρ' s2.s a' w2:=⟨by rw[hx.2.1,hx.2.2];exact r'.er.mono x2,m2⟩;obtain⟨v,g1,g2⟩:=QA r2 hres hvs;have h3:=(hrun.wr _ _ _ _ hr).trans hx.1;exact⟨v,g1,GL m ⟨h3.1,fun b hb hn=>h3.2.2 b hb hn⟩ g2 m2 (x'.trans x2)⟩
   rcases he with rfl|rfl
   . exact hfin
   . exact hfin
end Go.Ab
namespace Go.Ab
variable {run:ao->aw->Option (Ex×aw)}
variable {P:Program} {gl:Nat->Option AV} {ρ:aO} {w:World} {h:ae} {C:Cx} {s:St} {a:Act}
theorem GO {C:Cx}:∀(ts:List Tmp) (ds:List fC) (as:List AV) (as':List Value) (s s0:St) (tmps:Array Value),mn C ts=some ds->VL ρ w as as'->ER C ρ w s.pe s.lo tmps->pr s ds as=some s0 ->
 ts.length=as'.length/\ER C ρ w s0.pe s0.lo ((ts.zip as').foldl (fun tmps (t,a)=>tmps.setIfInBounds t a) tmps)/\s0.hp=s.hp/\s0.cF=s.cF
 | [],ds,as,as',s,s0,tmps,hd,hv,er,hq=>by
  cases hd;cases as with
  | nil=>cases hq;rw[hv.jY];simp_all
  | cons _ _=>cases hq
 | t::ts,ds,as,as',s,s0,tmps,hd,hv,er,hq=>by
  simp only[mn]at hd;split at hd
  . rename_i d l h1 h2;cases hd;cases as with
    | nil=>cases hq
    | cons x as=>
     obtain⟨y,as',rfl,hy,hl⟩:=hv.cons_inv;simp only[pr]at hq;have er':=Ac (s:=s) (a:=⟨tmps,[]⟩) (er:=er) h1 hy s.hp;have e:({ s.put d x with hp:=s.hp }:St)=s.put d x:=by cases d <;> rfl
     rw[e]at er';obtain⟨g1,g2,g3,g4⟩:=GO ts l as as' (s.put d x) s0 _ h2 hl er' hq;exact⟨by simp[g1],g2,g3.trans (Al _ _ _),g4.trans (by cases d <;> rfl)⟩
  grind
theorem uB {c:Nat}{r:Loop}(h:w.heap[c]? = some (.loop r)):(Instr.getLoop c).run P w = .ok r w:=by
 simp[Instr.getLoop,mA h]
theorem uD (m:Mem P gl ρ h w){b:Nat}{st:LoopState}{pend:Option Ex}{pe:List AV}{ps:List fC}{as bd:ao}(hb:h.at b=some (.loop st pend pe ps as bd)) :
 h[b]? = some (some (.loop st pend pe ps as bd))/\∃c r aV N,ρ b = .live c 0/\w.heap[c]? = some (.loop r)/\r.state=st/\nC pend r.pending /\
  ER ⟨P,gl,aV,N⟩ ρ w pe [] r.tmps/\mn ⟨P,gl,aV,N⟩ r.params.toList=some ps/\fR ⟨P,gl,aV,N⟩ true r.assign=some as/\fR ⟨P,gl,aV,N⟩ true r.body=some bd:=
 ⟨pF hb,m.dJ b _ (pF hb)⟩
theorem Aq (m:Mem P gl ρ h w){b c:Nat}{o0:cd}(h0:h[b]? = some (some o0))(hρ:ρ b = .live c 0){r:Loop}(hr:w.heap[c]? = some (.loop r))(r':Loop){st':LoopState}{pend':Option Ex}{pe:List AV}{ps:List fC}{as bd:ao}{aV:List Nat}{N:Nat}
 (hst:r'.state=st') (hp:nC pend' r'.pending) (er:ER ⟨P,gl,aV,N⟩ ρ w pe [] r'.tmps) (h1:mn ⟨P,gl,aV,N⟩ r'.params.toList=some ps) (h2:fR ⟨P,gl,aV,N⟩ true r'.assign=some as) (h3:fR ⟨P,gl,aV,N⟩ true r'.body=some bd) :
 Mem P gl ρ (h.put b (some (.loop st' pend' pe ps as bd))) (w.dS c (.loop r'))/\Ext h (h.put b (some (.loop st' pend' pe ps as bd))) ρ ρ w (w.dS c (.loop r')):=by
 have hO:∀cs0 e0 fr0,w.heap[c]? = some (.cells cs0 e0 fr0)->∃cs' fr',Obj.loop r' = .cells cs' e0 fr'/\cs'.size=cs0.size:=by
  intro _ _ _ hq';rw[hr]at hq';cases hq'
 have x:=Ext.write m h0 hρ (some (.loop st' pend' pe ps as bd)) (.loop r') hO;refine⟨Mem.write m h0 hρ _ _ hO ?_,x⟩;intro o' ho;cases ho;exact⟨c,r',aV,N,hρ,nD au,hst,hp,er.mono x,h1,h2,h3⟩
def mF (run:ao->aw->Option (Ex×aw))(b:Nat)(as:List AV)(h:ae):Option HR:=
 match h.at b with
 | some (.loop .ready none pe ps a bd)=>
  match pr ⟨pe,[],h,[]⟩ ps as with
  | some s0=>match run a ⟨s0,[]⟩ with
    | some (.normal,s1)=>match s1.s.hp.at b with
      | some (.loop .ready none pe' ps' a' bd')=>
       match run bd ⟨{ s1.s with hp:=s1.s.hp.put b (some (.loop .busy none pe' ps' a' bd')) },b::s1.wr⟩ with
       | some (e,s2)=>match s2.s.hp.at b,s2.s.cF with
         | some (.loop .busy none pe' ps' a' bd'),[]=>
          some (gm (.bool (decide (e = .normal))) h.length ⟨{ s2.s with hp:=s2.s.hp.put b (some (if e = .normal then .loop .ready none pe' ps' a' bd' else .loop .done (some e) pe' ps' a' bd')) },b::s2.wr⟩)
         | _,_=>none
       | none=>none
      | _=>none
    | _=>none
  | none=>none
 | _=>none
theorem uE (s:aw)(b:Nat)(o:Option cd):fU s ⟨{ s.s with hp:=s.s.hp.put b o },b::s.wr⟩:=
 ⟨by simp[ae.put],fun _ hb=>au,fun b' _ hn=>by
  simp only[b6,not_or]at hn;exact mr hn.1⟩
theorem GP:∀(ds:List fC) (as:List AV) (s s0:St),pr s ds as=some s0->s0.hp=s.hp
 | [],[],s,s0,h=>by cases h;rfl
 | [],_::_,s,s0,h=>by cases h
 | _::_,[],s,s0,h=>by cases h
 | d::ds,v::as,s,s0,h=>(GP ds as _ s0 h).trans (Al _ _ _)
theorem QC (hrun:lG P gl run){b:Nat}{as:List AV}{h:ae}{q:HR}(hq:mF run b as h=some q):fO h q:=by
 unfold mF at hq;split at hq <;> try (cases hq;done)
 split at hq <;> try (cases hq;done)
 rename_i s0 hp;split at hq <;> try (cases hq;done)
 rename_i s1 hr1;split at hq <;> try (cases hq;done)
 split at hq <;> try (cases hq;done)
 rename_i e s2 hr2;split at hq <;> try (cases hq;done)
 rename_i pe2 ps2 ai2 bi2 hb2 hd2;cases hq;have h1:=hrun.wr _ _ _ _ hr1;have h2:=hrun.wr _ _ _ _ hr2;have h3:=(h1.trans (uE s1 b _)).trans h2;have h4:=h3.trans (uE s2 b (some (if e = .normal then .loop .ready none pe2 ps2 ai2 bi2 else .loop .done (some e) pe2 ps2 ai2 bi2)));have hhp:=GP _ _ _ _ hp;refine GM ⟨?_,?_⟩ _
 . have:=h4.1;grind
 . intro b' hb' hn;have:=h4.2.2 b' au hn;grind
theorem QD (l:Nat):Fence.wide.inRound l=FR (some l):=rfl
theorem QE (hrun:lG P gl run){b:Nat}{as:List AV}{h:ae}{q:HR}(hq:mF run b as h=some q)(m:Mem P gl ρ h w){g':Value}(hg:V ρ w (.fn (.yield b) [] []) g')
 {as':List Value} (hv:VL ρ w as as'):∃nx w1,(nG g' as'.toArray).run P w = .ok nx w1/\jH P nx w1 fun v w'=>fo P gl ρ h w q v w':=by
 have hq0:=hq;unfold mF at hq;split at hq <;> try (cases hq;done)
 rename_i pe ps ai bi hb;split at hq <;> try (cases hq;done)
 rename_i s0 hp;split at hq <;> try (cases hq;done)
 rename_i s1 hr1;split at hq <;> try (cases hq;done)
 rename_i pe1 ps1 ai1 bi1 hb1;split at hq <;> try (cases hq;done)
 rename_i e s2 hr2;split at hq <;> try (cases hq;done)
 rename_i pe2 ps2 ai2 bi2 hb2 hd2;cases hq;obtain⟨h0,c,r,aV,N,g1,g2,g3,g4,g5,g6,g7,g8⟩:=uD m hb;have hge:g' = .func (.yield c) #[] #[]:=by
  cases hg with
  | yield hρ=>grind
  | fn hf=>grind
  | iq _ hρ=>grind
 subst hge;obtain⟨p1,p2,p3,p4⟩:=GO (C:=⟨P,gl,aV,N⟩) r.params.toList ps as as' ⟨pe,[],h,[]⟩ s0 r.tmps g6 hv g5 hp;have hsz:as'.toArray.size=r.params.size:=by simpa using p1.symm
 let tm:=(r.params.zip as'.toArray).foldl (fun tmps (t,a)=>tmps.setIfInBounds t a) r.tmps
 have htm:tm=(r.params.toList.zip as').foldl (fun tmps (t,a)=>tmps.setIfInBounds t a) r.tmps:=by
  simp only[tm,←Array.foldl_toList,Array.toList_zip]
 refine⟨.round c r.fn tm r.assign r.body,w,?_,?_⟩
 . simp only[nG,Deferred.ofValue,invoke,cT,dL,b7,Instr.yield];rw[uB g2];simp[hsz,tm]
 . refine roundIn_of_wpIn (F:=Fence.wide) (n:=0) trivial ?_;rw[QD];have w1:=hrun.wr _ _ _ _ hr1;have w2:=hrun.wr _ _ _ _ hr2;refine hrun.ok ai ⟨s0,[]⟩ .normal s1 hr1 aV N true r.assign g7 ρ ⟨tm,[]⟩ w (some c) ⟨au,au⟩ ⟨au,fun i b d hi _=>by grind⟩ am _ ?_;intro ρ1 a1 v1 r1 d1 x1;rw[show (aw.mk s0 []).s.hp=h from p3]at x1;obtain⟨h1',c1,rr1,pers1,N1,k1,k2,k3,k4,k5,k6,k7,k8⟩:=uD r1.mem hb1;have hc1:c1=c:=by
    rcases x1.live b c 0 g1 with hh|hh
    . grind
    . grind
   subst hc1;obtain⟨m2,x2⟩:=Aq (st':=.busy) r1.mem h1' k1 k2 { rr1 with state:=.busy } rfl k4 k5 k6 k7 k8;refine⟨v1.dS c1 (.loop { rr1 with state:=.busy }),?_,?_⟩
   . simp[Instr.beginRound,uB k2,nF k2,k3]
   . refine hrun.ok bi _ e s2 hr2 aV N true r.body g8 ρ1 a1 _ (some c1) ⟨r1.er.mono x2,m2⟩ (d1.mono x2) am _ ?_;intro ρ2 a2 v2 r2 d2 x3;obtain⟨h2',c2,rr2,pers2,N2,l1,l2,l3,l4,l5,l6,l7,l8⟩:=uD r2.mem hb2;have hc2:c2=c1:=by
      rcases x3.live b c1 0 k1 with hh|hh
      . grind
      . grind
     subst hc2;have fin:∀(jump:Option Code) (st':LoopState) (pend':Option Ex),nC pend' jump->(if jump.isNone then LoopState.ready else LoopState.done)=st'->jump.isNone=decide (e = .normal) ->
      (if e = .normal then cd.loop .ready none pe2 ps2 ai2 bi2 else .loop .done (some e) pe2 ps2 ai2 bi2) = .loop st' pend' pe2 ps2 ai2 bi2 ->
      ∃v w',(Instr.endRound c2 jump).run P v2 = .ok v w'/\fo P gl ρ h w (gm (.bool (decide (e = .normal))) h.length ⟨{ s2.s with hp:=s2.s.hp.put b (some (if e = .normal then .loop .ready none pe2 ps2 ai2 bi2 else .loop .done (some e) pe2 ps2 ai2 bi2)) },b::s2.wr⟩) v w':=by
      intro jump st' pend' q1 q2 q3 q4;obtain⟨m4,x4⟩:=Aq (st':=st') (pend':=pend') r2.mem h2' l1 l2 { rr2 with state:=if jump.isNone then .ready else .done,pending:=jump } q2 q1 l5 l6 l7 l8;refine⟨.bool jump.isNone,v2.dS c2 (.loop { rr2 with state:=if jump.isNone then .ready else .done,pending:=jump }),?_,?_⟩
      . simp[Instr.endRound,uB l2,nF l2]
      . have h3:=(w1.trans (by grind[uE])).trans w2;have h4:=h3.trans (uE s2 b (some (if e = .normal then .loop .ready none pe2 ps2 ai2 bi2 else .loop .done (some e) pe2 ps2 ai2 bi2)));refine GL (ρ':=ρ2) m ⟨?_,?_⟩ (by rw[q3];exact .bool _) au (by rw[q4];exact((x1.trans x2).trans x3).trans x4)
        . have:=h4.1;grind
        . intro b' hb' hn;have:=h4.2.2 b' au hn;grind
     cases e with
     | normal=>exact fin none .ready none trivial rfl am am
     | ret=>exact fin (some .ret) .done (some .ret) trivial rfl am am
     | exit i=>exact fin (some (.exit i)) .done (some (.exit i)) rfl rfl am am
theorem Ar (hrun:lG P gl run){ext:FuncId->List AV->ae->Option HR}(hext:cY P gl ext){FT:FuncId->Option dh}(hFT:mE P gl FT):mD P gl (iE run ext FT):=by
 have round_eq:∀b as h,iE run ext FT (.fn (.yield b) [] []) as h=mF run b as h:=fun _ _ _=>rfl
 refine⟨fun g as h r hq=>?_,fun g as h r hq ρ w g' as' m hg hv=>?_⟩
 . cases g <;> try (cases hq;done)
   rename_i f fi ca;cases f <;> try (cases hq;done)
   . simp only[iE]at hq;split at hq
     . rename_i q hq1;cases hq;exact(hext _ _ _ _ hq1).1
     grind[GN]
   . cases fi <;> cases ca <;> try (cases hq;done)
     grind[QC]
 . cases g <;> try (cases hq;done)
   rename_i f fi ca;cases f <;> try (cases hq;done)
   . rename_i f;cases hg with
     | @fn _ _ _ fi' ca' hf h1 h2 g1 g2=>
      have hall:VL ρ w (fi++as++ca) (fi'++as'++ca'):=(VL.append ⟨h1,g1⟩ hv).append ⟨h2,g2⟩;have happ:∀(nx:Next) (w1:World),(callFunc f (fi'++as'++ca').toArray).run P w = .ok nx w1->(nG (.func (.func f) fi'.toArray ca'.toArray) as'.toArray).run P w = .ok nx w1:=by
       intro nx w1 hc;simp only[nG,Deferred.ofValue,invoke,cT,dL,b7];rw[←hc];congr 2;simp
      simp only[iE]at hq;split at hq
      . rename_i q hq1;cases hq;obtain⟨nx,w1,h3,h4⟩:=(hext _ _ _ _ hq1).2 ρ w _ m hall<;>grind
      . obtain⟨h3,h4⟩:=uA hrun hFT hq m hall;exact⟨_,_,happ _ _ h3,h4⟩
   . cases fi <;> cases ca <;> try (cases hq;done)
     grind[QE]
end Go.Ab
namespace Go.Ab
variable {P:Program} {gl:Nat->Option AV} {ρ:aO} {w:World} {h:ae} {s:St} {a:Act} {ext:FuncId->List AV->ae->Option HR} {FT:FuncId->Option dh}
theorem QF (hext:cY P gl ext)(hFT:mE P gl FT):∀n,(∀k,k<n->lG P gl (bC ext (fD P) FT k))->∀c s e s',bC ext (fD P) FT n c s=some (e,s')->fU s s':=by
 intro n;cases n with
 | zero=>intro _ c s e s' hq;cases hq
 | succ n=>
  intro ih c s e s' hq;have ihn:=ih n ac;have hcall:=(Ar ihn hext hFT).wr;cases c <;> simp only[bC]at hq
  case skip=>cases hq;exact .refl _
  case region ops=>
   split at hq
   . rename_i s1 hr;cases hq;exact(fU.same (s:=s) (x:={ s.s with lo:=[] }) rfl).trans (Am hcall _ _ _ hr)
   grind
  case draw ops=>
   split at hq
   . rename_i s1 hr;cases hq;exact(fU.same (s:=s) (x:={ s.s with lo:=[] }) rfl).trans (Qx hcall hr)
   grind
  case seq x y=>
   split at hq
   . rename_i s1 hr;exact(ihn.wr _ _ _ _ hr).trans (ihn.wr _ _ _ _ hq)
   . exact ihn.wr _ _ _ _ hq
  case cond x p q=>
   split at hq
   . exact ihn.wr _ _ _ _ hq
   grind
  case block id x=>
   split at hq
   . rename_i s1 hr;split at hq <;> (cases hq;exact ihn.wr _ _ _ _ hr)
   . exact ihn.wr _ _ _ _ hq
  case loop x=>
   split at hq
   . rename_i s1 hr;exact(ihn.wr _ _ _ _ hr).trans (ihn.wr _ _ _ _ hq)
   . exact ihn.wr _ _ _ _ hq
  case exit id=>cases hq;exact .refl _
  case ret=>cases hq;exact .refl _
  case rangeFunc inner f ps as bd=>
   split at hq
   . cases hq
   . split at hq
     . split at hq
       . rename_i r hr;split at hq
         . split at hq
           . cases hq
           . cases hq;have h1:=GN ihn hr;refine⟨?_,fun b hb=>by grind,fun b hb hn=>?_⟩
             . have:=h1.1;simp only[cn,d6,d7]at this;simp[ae.put];omega
             . simp only[f7,b6,cP,not_or]at hn;show (r.h.set _ _)[b]? = _;rw[mr hn.1,h1.2 b au hn.2.1,b8 hb]
         grind
       grind
     grind
  grind
theorem QG {p:Nat->Prop}(h:∃n,p n):∃n,p n/\∀m,p m->n<=m:=by
 obtain⟨n,hn⟩:=h;induction n using iK<;>grind
open Classical in
theorem QH {n:Nat}{aV:List Nat}{N:Nat}{rd:Bool}{code:Code}{c:ao}(hcode:fR ⟨P,gl,aV,N⟩ rd code=some c)(ih:∀k,k<n->lG P gl (bC ext (fD P) FT k)){s s':aw}{e:Ex}(hq:bC ext (fD P) FT n (.loop c) s=some (e,s'))
 {ro:Option Nat} (r:Rel ⟨P,gl,aV,N⟩ ρ s.s a w) (d:DF ρ s.s.cF a.defers) (hrd:rd=false->ro=none) {Q:Exit->Act->World->Prop}
 (hQ:∀ρ' a' w',Rel ⟨P,gl,aV,N⟩ ρ' s'.s a' w'->DF ρ' s'.s.cF a'.defers->Ext s.s.hp s'.s.hp ρ ρ' w w'->Q (uy e) a' w'):(Code.loop code).wpIn (FR ro) 0 P Q a w:=by
 let At:Nat->Act->World->Prop:=fun m a1 w1=>m<=n/\∃(s1:aw) (ρ1:aO),bC ext (fD P) FT m (.loop c) s1=some (e,s')/\Rel ⟨P,gl,aV,N⟩ ρ1 s1.s a1 w1/\DF ρ1 s1.s.cF a1.defers/\Ext s.s.hp s1.s.hp ρ ρ1 w w1
 let I:Act->World->Prop:=fun a1 w1=>∃m,At m a1 w1
 let μ:Act->World->Nat:=fun a1 w1=>if h:∃m,At m a1 w1 then j4 (QG h) else 0
 have hμ:∀a1 w1 m,At m a1 w1->μ a1 w1<=m:=by
  intro a1 w1 m hm;have hex:∃m,At m a1 w1:=⟨m,hm⟩;simp only[μ,dif_pos hex];exact au
 refine wpIn_loop I μ ⟨n,b9 _,s,ρ,hq,r,d,Ext.refl _ _ _⟩ ?_;intro a1 w1 hI;have hμe:At (μ a1 w1) a1 w1:=by
  have hI':∃m,At m a1 w1:=hI;simp only[μ,dif_pos hI'];exact au
 obtain⟨hle,s1,ρ1,hq1,r1,d1,x1⟩:=hμe;generalize hm:μ a1 w1=m at *
 cases m with
 | zero=>cases hq1
 | succ m=>
  have ihm:=ih m ac;simp only[bC]at hq1;cases hr:bC ext (fD P) FT m c s1 with
  | none=>grind
  | some p=>
   obtain⟨e2,s2⟩:=p;rw[hr]at hq1;refine ihm.ok c s1 e2 s2 hr aV N rd code hcode ρ1 a1 w1 ro r1 d1 hrd _ ?_;intro ρ2 a2 w2 r2 d2 x2;cases e2 with
   | normal=>
    simp only at hq1;have hat:At m a2 w2:=⟨ac,s2,ρ2,hq1,r2,d2,x1.trans x2⟩;exact⟨⟨m,hat⟩,by have:=hμ a2 w2 m hat;omega⟩
   | exit i=>cases hq1;exact hQ ρ2 a2 w2 r2 d2 (x1.trans x2)
   | ret=>cases hq1;exact hQ ρ2 a2 w2 r2 d2 (x1.trans x2)
end Go.Ab
namespace Go.Ab
variable {P:Program} {gl:Nat->Option AV} {ρ:aO} {w:World} {h:ae} {s:St} {a:Act} {ext:FuncId->List AV->ae->Option HR} {FT:FuncId->Option dh}
theorem QI {C:Cx}{ops:List Oper}{draw:Bool}{c:ao}(h:ua C ops draw=some c):∃il,jX C ops ops=some il /\
 ((draw=false/\c = .region il)\/(draw=true/\∃bits,py ops bits=true/\pz il bits=true/\c = .draw (il.zipIdx.map fun (o,i)=>(o,jG (bits.getD i 0) i)))):=by
 unfold ua at h;grind
theorem QJ {fn:FuncId}{tmps:Array Value}{ps:Array Tmp}{as bd:Code}:(Instr.enterLoop fn tmps ps as bd none).run P w =
 .ok (w.heap.size+1,[{ target:=.collected w.heap.size,args:=#[] }])
   { w with heap:=(w.heap.push (.deferred (some []))).push (.loop { state:=.ready,pending:=none,fn,tmps,params:=ps,assign:=as,body:=bd,defers:=w.heap.size }) }:=by
 simp[Instr.enterLoop];rfl
theorem QK {n:Nat}(ihn:lG P gl (bC ext (fD P) FT n))(hFT:mE P gl FT){aV:List Nat}{N:Nat}{g:Operand}{ps:Array Tmp}{as bd:Code}{fi:aS}{dps:List fC}{ai bi:ao}
 (hg:gK ⟨P,gl,aV,N⟩ g=some fi) (hps:mn ⟨P,gl,aV,N⟩ ps.toList=some dps) (has:fR ⟨P,gl,aV,N⟩ true as=some ai) (hbd:fR ⟨P,gl,aV,N⟩ true bd=some bi)
 {s s':aw} {e:Ex} (hq:bC ext (fD P) FT (n+1) (.rangeFunc false fi dps ai bi) s=some (e,s')) (r:Rel ⟨P,gl,aV,N⟩ ρ s.s a w) (d:DF ρ s.s.cF a.defers) {Q:Exit->Act->World->Prop}
 (hQ:∀ρ' a' w',Rel ⟨P,gl,aV,N⟩ ρ' s'.s a' w'->DF ρ' s'.s.cF a'.defers->Ext s.s.hp s'.s.hp ρ ρ' w w'->Q (uy e) a' w'):(Code.rangeFunc g ps as bd).wpIn (FR none) 0 P Q a w:=by
 simp only[bC,bA,if_false]at hq;split at hq <;> try (cases hq;done)
 rename_i gf l1 l2 hgv;split at hq <;> try (cases hq;done)
 rename_i q hcall;split at hq <;> try (cases hq;done)
 rename_i st pend pe' ps' a' b' hb;split at hq <;> try (cases hq;done)
 rename_i hst;cases hq;have hgV:=r.ah hg hgv;generalize hge:a.eval g=gv at hgV;cases hgV with
 | @fn _ _ _ fi' ca' hf h1 h2 g1 g2=>
  refine wpIn_rangeFunc fun fnId _=>?_
  have x1:=Ext.alloc r.mem (some .gI) (.deferred (some [])) (.live w.heap.size 0) am;have m1:=Mem.alloc r.mem (some .gI) (.deferred (some [])) (.live w.heap.size 0) am (by
   intro o' ho;cases ho;exact⟨w.heap.size,aO.gq _ _ _,am⟩)
  generalize hρ1:ρ.eE s.s.hp.length (.live w.heap.size 0)=ρ1 at *
  generalize hw1:({ w with heap:=w.heap.push (.deferred (some [])) }:World)=v1 at *
  have hv1s:v1.heap.size=w.heap.size+1:=by rw[←hw1];simp
  let rec0:Loop:={ state:=.ready,pending:=none,fn:=fnId,tmps:=a.tmps,params:=ps,assign:=as,body:=bd,defers:=w.heap.size }
  have hl1:(s.s.hp++[some cd.gI]).length=s.s.hp.length+1:=by simp
  have x2:=Ext.alloc m1 (some (.loop .ready none s.s.pe dps ai bi)) (.loop rec0) (.live v1.heap.size 0) am;have er1:ER ⟨P,gl,aV,N⟩ ρ1 v1 s.s.pe [] a.tmps:=⟨r.er.size,r.er.nodup,r.er.lt,r.er.kG,fun i v t hv ht=>(r.er.pe i v t hv ht).mono x1,am⟩;have m2:=Mem.alloc m1 (some (.loop .ready none s.s.pe dps ai bi)) (.loop rec0) (.live v1.heap.size 0) am (by
   intro o' ho;cases ho;exact⟨v1.heap.size,rec0,aV,N,aO.gq _ _ _,am,rfl,trivial,er1.mono x2,hps,has,hbd⟩)
  rw[hl1]at x2 m2;have happ:s.s.hp++[some cd.gI]++[some (.loop .ready none s.s.pe dps ai bi)]=s.s.hp++[some cd.gI,some (.loop .ready none s.s.pe dps ai bi)]:=by simp
  rw[happ]at x2 m2;generalize hρ2:ρ1.eE (s.s.hp.length+1) (.live v1.heap.size 0)=ρ2 at *
  generalize hw2:({ v1 with heap:=v1.heap.push (.loop rec0) }:World)=v2 at *
  have x12:=x1.trans x2;have hyield:V ρ2 v2 (.fn (.yield (s.s.hp.length+1)) [] []) (.func (.yield (w.heap.size+1)) #[] #[]):=by
   rw[←hv1s];exact .yield (d:=0) (by grind[aO.gq])
  have hall:VL ρ2 v2 (l1++[.fn (.yield (s.s.hp.length+1)) [] []]++l2) (fi'++[.func (.yield (w.heap.size+1)) #[] #[]]++ca'):=by
   have e1:VL ρ2 v2 l1 fi':=VL.mono x12 ⟨h1,g1⟩;have e2:VL ρ2 v2 l2 ca':=VL.mono x12 ⟨h2,g2⟩;exact(e1.append (.cons hyield .nil)).append e2
  obtain⟨hcf,hcalls⟩:=uA ihn hFT hcall m2 hall;refine⟨w.heap.size+1,[{ target:=.collected w.heap.size,args:=#[] }],v2,{ target:=.fn (.func gf) ca'.toArray,args:=fi'.toArray ++ #[.func (.yield (w.heap.size+1)) #[] #[]] },v2,gf,
   (fi'++[Value.func (.yield (w.heap.size+1)) #[] #[]]++ca').toArray,v2,?_,?_,fun _ _=>trivial,?_,fun hd=>(by cases hd),?_⟩
  . rw[show (FR none).round=none from rfl,QJ,←hw2,←hw1]
  . have e:resolve a.eval (rangeCall g (w.heap.size+1)) 0=Deferred.ofValue (a.eval g) #[.func (.yield (w.heap.size+1)) #[] #[]]:=by
     simp[resolve,Act.eval]
    rw[e,hge];rfl
  . simp only[invoke]<;>grind
  . refine CallsIn.mono (F:=Fence.wide) (n:=0) hcalls ?_;intro en w3 hen;cases en with
    | panicked _=>grind
    | outgrown=>grind
    | returned v=>
     obtain⟨ρ3,hv3,m3,x3⟩:=hen;obtain⟨h0',c,rr,pers',N',k1,k2,k3,k4,k5,k6,k7,k8⟩:=uD m3 hb;have hc:c=w.heap.size+1:=by
      have hl:ρ2 (s.s.hp.length+1) = .live (w.heap.size+1) 0:=by rw[←hρ2,←hv1s];exact am
      rcases x3.live _ _ _ hl with hh|hh
      . grind
      . grind
     subst hc;obtain⟨m4,x4⟩:=Aq (st':=.exhausted) (pend':=pend) m3 h0' k1 k2 { rr with state:=.exhausted } rfl k4 k5 k6 k7 k8;have xx:=(x12.trans x3).trans x4;refine⟨rr.pending,w3.dS (w.heap.size+1) (.loop { rr with state:=.exhausted }),?_,?_⟩
     . have hnb:(rr.state == LoopState.busy)=false:=by rw[k3];simpa using hst
       simp only[Instr.endLoop,cT,uB k2,b7,hnb,bA,if_false,dL,nF k2 am]
     . have hrel:Rel ⟨P,gl,aV,N⟩ ρ3 { s.s with hp:=q.h.put (s.s.hp.length+1) (some (.loop .exhausted pend pe' ps' a' b')),cF:=s.s.hp.length::s.s.cF } { a with defers:=[{ target:=.collected w.heap.size,args:=#[] }]++a.defers } (w3.dS (w.heap.size+1) (.loop { rr with state:=.exhausted })):=
        ⟨(r.er.mono xx:ER ⟨P,gl,aV,N⟩ ρ3 _ s.s.pe s.s.lo a.tmps),m4⟩
       have hdf:DF ρ3 (s.s.hp.length::s.s.cF) ([{ target:=.collected w.heap.size,args:=#[] }]++a.defers):=by
        have hl:ρ1 s.s.hp.length = .live w.heap.size 0:=by rw[←hρ1];exact am
        have d1:DF ρ1 (s.s.hp.length::s.s.cF) ([{ target:=.collected w.heap.size,args:=#[] }]++a.defers):=by
         have d0:=d.mono x1;refine⟨by simp[d0.1],fun i b dd hi hi'=>?_⟩;cases i with
         | zero=>grind
         | succ i=>exact d0.2 i b dd au au
        exact((d1.mono x2).mono x3).mono x4
       have hfin:=hQ ρ3 _ _ hrel hdf xx;have key:∀(W:World) (a':Act) (jp:Option Code),nC pend jp->Q (uy (pend.getD .normal)) a' W->(match jp with|none=>Q .normal a' W|some c=>c.wpIn (FR none) 0 P Q a' W):=by
        intro W a' jp k4 hfin;cases pend with
        | none=>
         cases jp with
         | none=>exact hfin
         | some _=>exact k4.elim
        | some e1=>
         cases e1 with
         | normal=>cases jp <;> exact k4.elim
         | exit i=>
          cases jp with
          | none=>exact k4.elim
          | some cc=>
           cases cc <;> simp only[nC]at k4;subst k4;exact wpIn_exit hfin
         | ret=>
          cases jp with
          | none=>exact k4.elim
          | some cc=>
           cases cc <;> simp only[nC]at k4;exact wpIn_ret hfin
       grind
theorem As (hmix:P.follows .mixedOrders=true)(hext:cY P gl ext)(hFT:mE P gl FT):∀n,lG P gl (bC ext (fD P) FT n):=by
 intro n;induction n using iK with
 | _ n ih=>
  refine⟨QF hext hFT n ih,?_⟩;cases n with
  | zero=>intro c s e s' hq;cases hq
  | succ n=>
   have ihn:=ih n ac;have hcall:=Ar ihn hext hFT;intro c s e s' hq aV N rd code hcode ρ a w ro r d hrd Q hQ;cases code <;> simp only[fR]at hcode
   case skip=>
    cases hcode;simp only[bC,bI.injEq,ii.injEq]at hq;obtain⟨rfl,rfl⟩:=hq;exact wpIn_skip (hQ ρ a w r d (Ext.refl _ _ _))
   case label l=>
    cases hcode;simp only[bC,bI.injEq,ii.injEq]at hq;obtain⟨rfl,rfl⟩:=hq;exact wpIn_label (hQ ρ a w r d (Ext.refl _ _ _))
   case exit id=>
    cases hcode;simp only[bC,bI.injEq,ii.injEq]at hq;obtain⟨rfl,rfl⟩:=hq;exact wpIn_exit (hQ ρ a w r d (Ext.refl _ _ _))
   case ret=>
    cases hcode;simp only[bC,bI.injEq,ii.injEq]at hq;obtain⟨rfl,rfl⟩:=hq;exact wpIn_ret (hQ ρ a w r d (Ext.refl _ _ _))
   case region id ops draw=>
    simp only[bI.injEq]at hcode;cases hc:ua ⟨P,gl,aV,N⟩ ops.toList draw with
    | none=>rw[hc]at hcode;simp at hcode;subst hcode;simp[bC]at hq
    | some c'=>
     rw[hc]at hcode;simp at hcode;subst hcode;obtain⟨il,hil,hor⟩:=QI hc;rcases hor with ⟨rfl,rfl⟩|⟨rfl,bits,hb1,hb2,rfl⟩
     . simp only[bC]at hq;split at hq
       . rename_i s1 hr;cases hq;have hdfs:=An _ _ _ hr;refine Qh hcall hil r hr ?_;intro ρ' a' w' r' x' hd';refine hQ ρ' a' w' r' ?_ x';rw[hdfs,hd'];exact d.mono x'
       grind
     . simp only[bC]at hq;split at hq
       . rename_i s1 hr;cases hq;refine Qu hcall hmix hcall.wr hil hb1 hb2 r hr ?_;intro ρ' a' w' r' x' hd' hdfs;refine hQ ρ' a' w' r' ?_ x';rw[hdfs,hd'];exact d.mono x'
       grind
   case seq x y=>
    split at hcode
    . rename_i cx cy hx hy;cases hcode;simp only[bC]at hq;refine wpIn_seq ?_;cases hr:bC ext (fD P) FT n cx s with
      | none=>grind
      | some p=>
       obtain⟨e1,s1⟩:=p;rw[hr]at hq;refine ihn.ok cx s e1 s1 hr aV N rd x hx ρ a w ro r d hrd _ ?_;intro ρ1 a1 w1 r1 d1 x1;cases e1 with
       | normal=>exact ihn.ok cy s1 e s' hq aV N rd y hy ρ1 a1 w1 ro r1 d1 hrd Q fun ρ2 a2 w2 r2 d2 x2=>hQ ρ2 a2 w2 r2 d2 (x1.trans x2)
       | exit i=>cases hq;exact hQ ρ1 a1 w1 r1 d1 x1
       | ret=>cases hq;exact hQ ρ1 a1 w1 r1 d1 x1
    grind
   case cond t x y=>
    split at hcode
    . rename_i ct cx cy ht hx hy;cases hcode;simp only[bC]at hq;split at hq
      . rename_i b hb;have e1:=(r.ah ht hb).mu;refine wpIn_cond e1 ?_;cases b with
        | true=>exact ihn.ok cx s e s' hq aV N rd x hx ρ a w ro r d hrd Q hQ
        | false=>exact ihn.ok cy s e s' hq aV N rd y hy ρ a w ro r d hrd Q hQ
      grind
    grind
   case block id x=>
    simp only[be]at hcode;obtain⟨cx,hx,rfl⟩:=hcode;simp only[bC]at hq;refine wpIn_block ?_;cases hr:bC ext (fD P) FT n cx s with
    | none=>grind
    | some p=>
     obtain⟨e1,s1⟩:=p;rw[hr]at hq;refine ihn.ok cx s e1 s1 hr aV N rd x hx ρ a w ro r d hrd _ ?_;intro ρ1 a1 w1 r1 d1 x1;cases e1 with
     | normal=>cases hq;exact hQ ρ1 a1 w1 r1 d1 x1
     | exit i=>
      simp only at hq;show (if i=id then Q .normal a1 w1 else Q (.exit i) a1 w1);split at hq
      . rename_i hi;cases hq;rw[if_pos hi];exact hQ ρ1 a1 w1 r1 d1 x1
      . rename_i hi;cases hq;rw[if_neg hi];exact hQ ρ1 a1 w1 r1 d1 x1
     | ret=>cases hq;exact hQ ρ1 a1 w1 r1 d1 x1
   case loop x=>
    grind[be,QH]
   case scope x=>
    simp only[be]at hcode;obtain⟨cx,hx,rfl⟩:=hcode;refine Qw ?_;simp only[bC]at hq;cases hr:bC ext (fD P) FT n cx s with
    | none=>grind
    | some p=>
     obtain⟨e1,s1⟩:=p;rw[hr]at hq;refine ihn.ok cx s e1 s1 hr aV N rd x hx ρ a w ro r d hrd _ ?_;intro ρ1 a1 w1 r1 d1 x1;cases e1 with
     | normal=>
      simp only at hq;cases n with
      | zero=>cases hq
      | succ n=>
       simp only[bC,bI.injEq,ii.injEq]at hq;obtain⟨rfl,rfl⟩:=hq;exact hQ ρ1 a1 w1 r1 d1 x1
     | exit i=>cases hq;exact hQ ρ1 a1 w1 r1 d1 x1
     | ret=>cases hq;exact hQ ρ1 a1 w1 r1 d1 x1
   case rangeFunc g ps as bd=>
    split at hcode
    . rename_i fi dps ai bi h1 h2 h3 h4;cases hcode;cases rd with
      | true=>simp[bC]at hq
      | false=>
       rw[hrd rfl];grind[QK]
    grind
   all_goals
    cases hcode;simp[bC]at hq
end Go.Ab
namespace Go.Ab
variable {P:Program} {gl:Nat->Option AV} {ρ:aO} {w:World} {h:ae}
def Au:AV->AV->Bool
 | .int k a,.int k' b=>decide (k=k') && a == b
 | .str a,.str b=>a == b
 | .bool a,.bool b=>a == b
 | .ff,.ff | .ab,.ab | .dT,.dT | .eZ,.eZ | .eh,.eh=>true
 | .fn (.func f) [] [],.fn (.func g) [] []=>f == g
 | _,_=>false
def uF:List AV->List AV->Bool
 | [],[]=>true
 | a::l,b::m=>Au a b && uF l m
 | _,_=>false
theorem QL {a b:AV}(h:Au a b=true):a=b:=by
 unfold Au at h;grind
theorem GQ:∀{a b:List AV},uF a b=true->a=b
 | [],[],_=>rfl
 | _::_,_::_,h=>by
  simp only[uF,aY]at h;rw[QL h.1,GQ h.2]
 | [],_::_,h=>by cases h
 | _::_,[],h=>by cases h
theorem jH.mono {nx:Next}{w1:World}{R R':Value->World->Prop}(h:jH P nx w1 R)(hr:∀v w',R v w'->R' v w'):jH P nx w1 R':=by
 cases nx <;> simp only[jH]at h ⊢
 case value v=>grind
 case enter f args=>
  grind[CallsIn.mono]
 grind[RoundIn.mono]
theorem Mem.bare (hgl:∀g v,gl g=some v->v.top=0)(m:Mem P gl ρ h w):Mem P gl (fc 0 ρ) [] w:=by
 refine⟨am,fun b _=>rfl,?_,?_,?_,?_,fun g v hg=>?_⟩
 . intro b b' c d d' h1;simp[fc]at h1
 . intro b c d h1;simp[fc]at h1
 . rintro c (hc|⟨b,d,_,hb⟩)
   . exact m.xb c hc
   . exact m.bound b c d hb
 . intro b c d h1;simp[fc]at h1
 . exact(m.gl g v hg).gM (n:=0) am (fun c hc=>hc.fc 0) au
theorem VL.bare {l:List AV}{m:List Value}(hl:bG l=0)(h:VL ρ w l m):VL (fc 0 ρ) w l m:=
 ⟨h.1,fun i x y hx hy=>(h.2 i x y hx hy).gM (n:=0) am (fun c hc=>hc.fc 0) (fF ac i x hx)⟩
end Go.Ab
namespace Go.Ab
variable {P:Program} {gl:Nat->Option AV} {ρ:aO} {w:World} {h:ae}
inductive XK where
 | pI|pJ|index|count|same
 deriving DecidableEq
def QM:Array Value->Sem Value:=fun args=>do
 let (x, y, b) ←Extern.MathBitsCarry.three "Sub64" args
 pure (Extern.MathBitsCarry.pair ((x+Extern.MathBitsCarry.m64-y-b)%Extern.MathBitsCarry.m64) (if x<y+b then 1 else 0))
def XK.entry:XK->Array Value->Sem Value
 | .pI=>add64Entry
 | .pJ=>QM
 | .index=>Extern.BytealgIndexByte.indexByte
 | .count=>Extern.BytealgCount.count
 | .same=>Extern.AbiNoEscape.same
def XK.run:XK->List AV->Option AV
 | .pI,[.int .u64 x,.int .u64 y,.int .u64 c]=>if 0<=x/\0<=y/\0<=c/\c<=1 then some (.ay [.int .u64 ((x+y+c)%18446744073709551616),.int .u64 ((x+y+c)/18446744073709551616)]) else none
 | .pJ,[.int .u64 x,.int .u64 y,.int .u64 c]=>if 0<=x/\0<=y/\0<=c/\c<=1 then some (.ay [.int .u64 ((x.toNat+18446744073709551616-y.toNat-c.toNat)%18446744073709551616:Nat),.int .u64 (if x.toNat<y.toNat+c.toNat then 1 else 0:Nat)]) else none
 | .index,[.str s,.int .u8 c]=>some (.int .i64 (firstIdx ⟨s.toArray⟩ c.toNat.toUInt8))
 | .count,[.str s,.int .u8 c]=>some (.int .i64 ((ByteArray.mk s.toArray).foldl (fun n x=>if x == c.toNat.toUInt8 then n+1 else n) ((0:Nat):Int)))
 | .same,[x]=>some x
 | _,_=>none
structure nL (P:Program)(f:Nat)(k:XK):Prop where
 fn : ∃fn, P.funcs[f]? = some fn /\ (fn.name == "runtime.NumGoroutine") = false /\ fn.body.isNone = true /\ Extern.findNext fn = none /\ Extern.find fn = some k.entry
def nM:List (Nat×XK)->FuncId->List AV->ae->Option HR
 | [],_,_,_=>none
 | (g,k)::L,f,all,h=>if c0 g f then (match k.run all with|some v=>some ⟨v,h,[]⟩|none=>none) else nM L f all h
theorem QN {x y c:Int}(hc0:0<=c)(hc:c<=1)(n:String)(k:Nat×Nat×Nat->Sem Value) :
 ((Extern.MathBitsCarry.three n #[.int .u64 x,.int .u64 y,.int .u64 c]) >>= k).run P w=(k (x.toNat,y.toNat,c.toNat)).run P w:=by
 obtain⟨c',rfl⟩:=Int.eq_ofNat_of_zero_le hc0;have:c'=0\/c'=1:=by omega
 rcases this with rfl|rfl <;> rfl
theorem XK.rE (k:XK){all:List AV}{as':List Value}(hv:VL ρ w all as'){v:AV}(hq:k.run all=some v):∃v',(k.entry as'.toArray).run P w = .ok v' w/\V ρ w v v':=by
 unfold XK.run at hq;split at hq <;> try (cases hq;done)
 . rename_i x y c;split at hq <;> try (cases hq;done)
   rename_i hc;cases hq;obtain⟨a1,m1,rfl,e1,hv⟩:=hv.cons_inv;obtain⟨a2,m2,rfl,e2,hv⟩:=hv.cons_inv;obtain⟨a3,m3,rfl,e3,hv⟩:=hv.cons_inv;obtain rfl:=hv.jY;cases e1;cases e2;cases e3;exact⟨_,run_add64 x y c hc.1 hc.2.1 hc.2.2.1 hc.2.2.2 w,V.iS (.cons (.int _ _) (.cons (.int _ _) .nil))⟩
 . rename_i x y c;split at hq <;> try (cases hq;done)
   rename_i hc;cases hq;obtain⟨a1,m1,rfl,e1,hv⟩:=hv.cons_inv;obtain⟨a2,m2,rfl,e2,hv⟩:=hv.cons_inv;obtain⟨a3,m3,rfl,e3,hv⟩:=hv.cons_inv;obtain rfl:=hv.jY;cases e1;cases e2;cases e3;exact⟨_, QN hc.2.2.1 hc.2.2.2 "Sub64" _, V.iS (.cons (.int _ _) (.cons (.int _ _) .nil))⟩
 . rename_i s c;cases hq;obtain⟨a1,m1,rfl,e1,hv⟩:=hv.cons_inv;obtain⟨a2,m2,rfl,e2,hv⟩:=hv.cons_inv;obtain rfl:=hv.jY;cases e1;cases e2;exact⟨_,run_indexByte_string ⟨s.toArray⟩ c w,.int _ _⟩
 . rename_i s c;cases hq;obtain⟨a1,m1,rfl,e1,hv⟩:=hv.cons_inv;obtain⟨a2,m2,rfl,e2,hv⟩:=hv.cons_inv;obtain rfl:=hv.jY;cases e1;cases e2;exact⟨_,rfl,.int _ _⟩
 . rename_i x;cases hq;obtain⟨a1,m1,rfl,e1,hv⟩:=hv.cons_inv;obtain rfl:=hv.jY;exact⟨a1,rfl,e1⟩
theorem Av:∀{L:List (Nat×XK)},(∀p∈L,nL P p.1 p.2)->cY P gl (nM L)
 | [],_=>fun f all h r hq=>by cases hq
 | (g,k)::L,hL=>fun f all h r hq=>by
  simp only[nM]at hq;split at hq
  . rename_i hg;have hg':=fX hg;subst hg';split at hq
    . rename_i v hv;cases hq;refine⟨pG _,fun ρ w as' m hl=>?_⟩;obtain⟨fn,h1,h2,h3,h4,h5⟩:=(hL (g,k) am).fn;obtain⟨v',h6,h7⟩:=XK.rE (P:=P) k hl hv;refine⟨.value v',w,?_,iJ m h7⟩;rw[run_callFunc_extern h1 h2 h3 h4 h5,h6];rfl
    grind
  . exact Av au f all h r hq
end Go.Ab
namespace Go.Ab
variable {P:Program} {gl:Nat->Option AV} {ρ:aO} {w:World} {h:ae}
def uG:Option Nat->Option Nat->Bool
 | none,none=>true
 | some a,some b=>c0 a b
 | _,_=>false
theorem GR {a b:Option Nat}(h:uG a b=true):a=b:=by
 unfold uG at h;split at h<;>simp_all
mutual
def nN:AV->AV->Bool
 | .dI,.dI=>true
 | .int k a,.int k' b=>decide (k=k') && a == b
 | .str a,.str b=>a == b
 | .bool a,.bool b=>a == b
 | .ff,.ff | .ab,.ab | .dT,.dT | .eZ,.eZ | .eh,.eh=>true
 | .ptr b o,.ptr b' o'=>c0 b b' && c0 o o'
 | .vp l,.vp m=>kd l m
 | .sl b o n e c,.sl b' o' n' e' c'=>c0 b b' && c0 o o' && c0 n n' && c0 e e' && uG c c'
 | .vs l n c,.vs l' n' c'=>kd l l' && c0 n n' && uG c c'
 | .map b,.map b'=>c0 b b'
 | .fn (.func f) x y,.fn (.func g) x' y'=>c0 f g && kd x x' && kd y y'
 | .iface t v,.iface t' v'=>c0 t t' && nN v v'
 | .agg l,.agg m=>kd l m
 | .ay l,.ay m=>kd l m
 | _,_=>false
def kd:List AV->List AV->Bool
 | [],[]=>true
 | a::l,b::m=>nN a b && kd l m
 | _,_=>false
end
mutual
theorem rF:∀(a b:AV),nN a b=true->a=b:=by
 intro a b h;unfold nN at h;split at h <;> first|rfl|(simp at h;done)|skip
 . grind
 . grind
 . grind
 . simp_all
 . rw[lH _ _ h]
 . simp only[aY,ip]at h;grind[GR]
 . simp only[aY,ip]at h;rw[lH _ _ h.1.1,h.1.2,GR h.2]
 . simp_all
 . simp only[aY,ip]at h;rw[h.1.1,lH _ _ h.1.2,lH _ _ h.2]
 . simp only[aY,ip]at h;rw[h.1,rF _ _ h.2]
 . rw[lH _ _ h]
 . rw[lH _ _ h]
theorem lH:∀(a b:List AV),kd a b=true->a=b:=by
 intro a b h;cases a <;> cases b <;> simp only[kd,aY]at h <;> first|rfl|(simp at h;done)|skip
 rw[rF _ _ h.1,lH _ _ h.2]
end
def uH:List (AV×AV)->List (AV×AV)->Bool
 | [],[]=>true
 | (a,b)::l,(c,d)::m=>nN a c && nN b d && uH l m
 | _,_=>false
theorem GS:∀{a b:List (AV×AV)},uH a b=true->a=b
 | [],[],_=>rfl
 | (a,b)::l,(c,d)::m,h=>by
  simp only[uH,aY]at h;rw[rF _ _ h.1.1,rF _ _ h.1.2,GS h.2]
 | [],_::_,h=>by cases h
 | _::_,[],h=>by cases h
def uI:cd->cd->Bool
 | .cells l e,.cells m f=>c0 e f && kd l m
 | .map l,.map m=>uH l m
 | .iter s p,.iter t q=>s == t && c0 p q
 | .gI,.gI=>true
 | _,_=>false
theorem GU {a b:cd}(h:uI a b=true):a=b:=by
 unfold uI at h;split at h
 . simp only[aY,ip]at h;grind[lH]
 . rw[GS h]
 . simp_all
 . rfl
 . cases h
def pK:ae->ae->Bool
 | [],[]=>true
 | none::l,none::m=>pK l m
 | some a::l,some b::m=>uI a b && pK l m
 | _,_=>false
theorem Aw:∀{a b:ae},pK a b=true->a=b
 | [],[],_=>rfl
 | none::l,none::m,h=>by simp only[pK]at h;rw[Aw h]
 | some a::l,some b::m,h=>by
  simp only[pK,aY]at h;rw[GU h.1,Aw h.2]
 | [],_::_,h=>by cases h
 | _::_,[],h=>by rename_i o _;cases o <;> cases h
 | none::_,some _::_,h=>by cases h
 | some _::_,none::_,h=>by cases h
def mG:ae->ae->Bool
 | [],[]=>true
 | none::l,_::m=>mG l m
 | some a::l,some b::m=>uI a b && mG l m
 | _,_=>false
theorem Ax:∀{a b:ae},mG a b=true->a.length=b.length/\∀(i:Nat) x,a[i]? = some (some x)->b[i]? = some (some x)
 | [],[],_=>⟨rfl,am⟩
 | none::l,o::m,h=>by
  simp only[mG]at h;obtain⟨h1,h2⟩:=Ax h;refine⟨by simp[h1],fun i x hx=>?_⟩;cases i with
  | zero=>simp at hx
  | succ i=>exact h2 i x (by simpa using hx)
 | some a::l,some b::m,h=>by
  simp only[mG,aY]at h;obtain⟨h1,h2⟩:=Ax h.2;refine⟨by simp[h1],fun i x hx=>?_⟩;cases i with
  | zero=>simp at hx ⊢;rw[←GU h.1,hx]
  | succ i=>exact h2 i x (by simpa using hx)
 | [],_::_,h=>by cases h
 | o::_,[],h=>by cases o <;> cases h
 | some _::_,none::_,h=>by cases h
structure bD where
 f:Nat
 as:List AV
 h:ae
 r:HR
def uJ (r:HR):Option HR->Bool
 | some q=>nN q.v r.v && pK q.h r.h && q.wr == r.wr
 | none=>false
theorem QO {r:HR}{q:Option HR}(h:uJ r q=true):q=some r:=by
 unfold uJ at h;split at h
 . rename_i q;simp only[aY,beq_iff_eq]at h;obtain⟨v,hh,wr⟩:=q;obtain⟨v',hh',wr'⟩:=r;grind[rF,Aw]
 . cases h
def nO (f:Nat)(all:List AV)(h:ae):List bD->Option HR
 | []=>none
 | e::T=>if c0 e.f f then (if kd e.as all then (if mG e.h h then some ⟨e.r.v,fN e.r.wr h e.r.h 0,e.r.wr⟩ else nO f all h T) else nO f all h T) else nO f all h T
def uK (T:List bD)(ext:FuncId->List AV->ae->Option HR):FuncId->List AV->ae->Option HR:=fun f all h=>
 match nO f all h T with
 | some r=>some r
 | none=>ext f all h
def bw (P:Program)(gl:Nat->Option AV)(e:bD):Prop:=
 fO e.h e.r/\∀ρ w (as':List Value),Mem P gl ρ e.h w->VL ρ w e.as as'->∃nx w1,(callFunc e.f as'.toArray).run P w = .ok nx w1/\jH P nx w1 fun v w'=>fo P gl ρ e.h w e.r v w'
theorem GV {f:Nat}{all:List AV}{h:ae}:∀{T:List bD} {r:HR},nO f all h T=some r->∃e∈T,e.f=f/\e.as=all/\mG e.h h=true/\r=⟨e.r.v,fN e.r.wr h e.r.h 0,e.r.wr⟩
 | [],r,h=>by cases h
 | e::T,r,hq=>by
  have rest:nO f all h T=some r->∃e'∈e::T,e'.f=f/\e'.as=all/\mG e'.h h=true/\r=⟨e'.r.v,fN e'.r.wr h e'.r.h 0,e'.r.wr⟩:=fun hr=>by
   obtain⟨e',h1,h2⟩:=GV hr;exact⟨e',List.mem_cons_of_mem _ h1,h2⟩
  simp only[nO]at hq;split at hq
  . rename_i hf;split at hq
    . rename_i ha;split at hq
      . rename_i hs;cases hq;exact⟨e,List.mem_cons_self,fX hf,lH _ _ ha,hs,rfl⟩
      . exact rest hq
    . exact rest hq
  . exact rest hq
theorem QP {h0:ae}{r:HR}(hs:h0.length=h.length/\∀(i:Nat) x,h0[i]? = some (some x)->h[i]? = some (some x))(hwr:fO h0 r)(m:Mem P gl ρ h w){v':Value}{w':World}(hd:fo P gl ρ h0 w r v' w') :
 fo P gl ρ h w ⟨r.v,fN r.wr h r.h 0,r.wr⟩ v' w':=by
 obtain⟨ρ',hv,m',x⟩:=hd;obtain⟨hl,hk⟩:=hs;have hle:h.length<=r.h.length:=by have:=hwr.1;omega
 have get:=fun b=>kc r.wr h r.h 0 b hle
 have hml:=rB r.wr h r.h 0 hle;have h0none:∀b,b<h.length->h[b]? = some none->h0[b]? = some none:=by
  intro b hb hn;cases hz:h0[b]? with
  | none=>grind
  | some z=>cases z<;>grind
 have E:Ext h (fN r.wr h r.h 0) ρ ρ' w w':=by
  refine⟨x.os,x.tape,x.output,x.size,ac,x.X,?_,?_,x.live,x.dead,x.nil,?_,?_,x.shape⟩
  . intro b hb;have hlt:=(aL.1 hb).1;rw[get b,if_pos hlt];split
    . exact x.dI b au
    omega
  . intro b hb;exact x.same b (h0none b (aL.1 hb).1 hb)
  . intro c hc hu;refine x.dc c hc fun b d hb=>?_<;>grind
  . intro b c d hb hc;rcases x.back b c d hb hc with h1|⟨b0,d0,h1,h2⟩<;>grind
 refine⟨ρ',hv,⟨?_,?_,m'.inj,m'.bound,m'.xb,m'.xo,m'.gl⟩,E⟩
 . intro b o hb;rw[get b]at hb;split at hb
   . rename_i hlt;split at hb
     . exact m'.dJ b o hb
     . rename_i hno;simp only[i9,List.contains_eq_mem,decide_eq_true_eq]at hno;cases hz:h0[b]? with
       | none=>grind
       | some z=>
        cases z with
        | some o'=>
         have:=hk b o' hz;rw[hb]at this;cases this;exact m'.dJ b o (by rw[hwr.2 b ac hno,hz])
        | none=>
         refine(m.dJ b o hb).mono E (x.same b hz) fun c d hl'=>?_
         refine x.dc c (m.bound b c d hl') fun b' d' hb'=>?_
         have:=m.inj _ _ _ _ _ hl' hb'<;>grind
   . exact m'.dJ b o hb
 . intro b hb;rw[hml]at hb;exact m'.fresh b hb
theorem GW {T:List bD}(hT:∀e∈T,bw P gl e){ext:FuncId->List AV->ae->Option HR}(hext:cY P gl ext):cY P gl (uK T ext):=by
 intro f all h r hq;unfold uK at hq;split at hq
 . rename_i q hv;cases hq;obtain⟨e,he,rfl,rfl,hs,rfl⟩:=GV hv;obtain⟨hwr,cj⟩:=hT e he;have hsp:=Ax hs;have hle:h.length<=e.r.h.length:=by have:=hwr.1;omega
   refine⟨⟨by grind[rB],fun b hb hn=>?_⟩,fun ρ w as' m hl=>?_⟩
   . show (fN e.r.wr h e.r.h 0)[b]? = _;rw[kc _ _ _ _ _ hle,if_pos hb];grind
   . have m0:Mem P gl ρ e.h w:=⟨fun b o hb=>m.dJ b o (hsp.2 b o hb),fun b hb=>m.fresh b ac,m.inj,m.bound,m.xb,m.xo,m.gl⟩;obtain⟨nx,w1,h1,h2⟩:=cj ρ w as' m0 hl;exact⟨nx,w1,h1,h2.mono (by grind[QP])⟩
 . exact hext f all h r hq
theorem QQ {call:eC}(hcall:mD P gl call){f:Nat}{as:List AV}{h:ae}{r:HR}(hq:uJ r (call (.fn (.func f) [] []) as h)=true):bw P gl ⟨f,as,h,r⟩:=by
 have hq':=QO hq;refine⟨hcall.wr _ _ _ _ hq',fun ρ w as' m hl=>?_⟩;obtain⟨nx,w1,h1,h2⟩:=hcall.ok _ _ _ _ hq' ρ w (.func (.func f) #[] #[]) as' m (.fn (fi':=[]) (ca':=[]) am rfl rfl am am) hl;exact Gu f _ _ ⟨nx,w1,h1,h2⟩
end Go.Ab
namespace Go.Ab
variable {ext:FuncId->List AV->ae->Option HR} {inv:fg} {FT:FuncId->Option dh}
def pL (c c':eC):Prop:=∀g as h r,c g as h=some r->c' g as h=some r
def uL (r r':ao->aw->Option (Ex×aw)):Prop:=∀c s x,r c s=some x->r' c s=some x
theorem uM {c c':eC}(hc:pL c c'){s:St}{io:bx}{q:HR}(h:cm c inv s io=some q):cm c' inv s io=some q:=by
 cases io <;> first|exact h|skip
 case call f as=>
  simp only[cm]at h ⊢;split at h
  . exact hc _ _ _ _ h
  . cases h
 case invoke f name as=>
  simp only[cm]at h ⊢;split at h
  . split at h
    . exact hc _ _ _ _ h
    . cases h
  . cases h
theorem lI {c c':eC}(hc:pL c c'):∀(l:List bj) (s s':aw),fz c inv l s=some s'->fz c' inv l s=some s'
 | [],s,s',h=>h
 | o::l,s,s',h=>by
  simp only[fz]at h ⊢;split at h
  . split at h
    . rename_i q hq;simp only[uM hc hq];exact lI hc l _ s' h
    . cases h
  . exact lI hc l _ s' h
  . cases h
theorem ke {c c':eC}(hc:pL c c'):∀(l:List (bj×List Nat)) (s s':aw) (ds:List cD),eu c inv l s ds=some s'->eu c' inv l s ds=some s'
 | [],s,s',ds,h=>h
 | (o,un)::l,s,s',ds,h=>by
  simp only[eu]at h ⊢;split at h
  . split at h
    . rename_i hh;cases ht:lh s.s o.op with
      | none=>
       simp only[ht]at h ⊢;simp only[if_true]at h ⊢;split at h
       . rename_i q hq;simp only[uM hc hq];split at h
         . rename_i hk;rw[if_pos hh];simp only[hk,if_true];exact ke hc l _ s' _ h
         . cases h
       . cases h
      | some T=>
       simp only[ht]at h ⊢;split at h
       . rename_i hd;rw[if_pos hd];split at h
         . rename_i q hq;simp only[uM hc hq];split at h
           . rename_i hk;rw[if_pos hh];simp only[hk,if_true];exact ke hc l _ s' _ h
           . cases h
         . cases h
       . cases h
    . rename_i hh;rw[if_neg hh];split at h
      . exact ke hc l _ s' _ h
      . cases h
  . exact ke hc l _ s' _ h
  . cases h
theorem uN {r r':ao->aw->Option (Ex×aw)}(hr:uL r r'){f:FuncId}{all:List AV}{h:ae}{q:HR}(hq:gW r FT f all h=some q):gW r' FT f all h=some q:=by
 unfold gW at hq ⊢;split at hq <;> try (cases hq;done)
 rename_i fi hfi;split at hq <;> try (cases hq;done)
 rename_i hn;rw[if_neg hn];split at hq <;> try (cases hq;done)
 rename_i e s hrun;rw[hr _ _ _ hrun];exact hq
theorem GX {r r':ao->aw->Option (Ex×aw)}(hr:uL r r'):pL (iE r ext FT) (iE r' ext FT):=by
 intro g as h q hq;cases g <;> try (cases hq;done)
 rename_i f fi ca;cases f <;> try (cases hq;done)
 . simp only[iE]at hq ⊢;grind[uN]
 . cases fi <;> cases ca <;> try (cases hq;done)
   rename_i b;change mF r b as h=some q at hq
   change mF r' b as h=some q
   unfold mF at hq ⊢;split at hq <;> try (cases hq;done)
   split at hq <;> try (cases hq;done)
   split at hq <;> try (cases hq;done)
   rename_i h3;simp only[hr _ _ _ h3];split at hq <;> try (cases hq;done)
   rename_i h4;split at hq <;> try (cases hq;done)
   rename_i h5;simp only[hr _ _ _ h5];exact hq
theorem QR:∀n,uL (bC ext inv FT n) (bC ext inv FT (n+1)):=by
 intro n;induction n with
 | zero=>intro c s x h;cases h
 | succ n ih=>
  intro c s x h;have hc:pL (iE (bC ext inv FT n) ext FT) (iE (bC ext inv FT (n+1)) ext FT):=GX ih;cases c <;> first|exact h|skip
  case region ops=>
   rw[bC]at h ⊢;grind[lI]
  case draw ops=>
   rw[bC]at h ⊢;grind[ke]
  case seq a b=>
   rw[bC]at h ⊢;cases hr:bC ext inv FT n a s with
   | none=>grind
   | some p=>
    rw[ih _ _ _ hr];rw[hr]at h;obtain⟨e,s1⟩:=p;cases e with
    | normal=>exact ih _ _ _ h
    | exit _=>exact h
    | ret=>exact h
  case cond t a b=>
   rw[bC]at h ⊢;split at h
   . exact ih _ _ _ h
   . cases h
  case block id a=>
   rw[bC]at h ⊢;cases hr:bC ext inv FT n a s with
   | none=>grind
   | some p=>
    rw[ih _ _ _ hr];grind
  case loop a=>
   rw[bC]at h ⊢;cases hr:bC ext inv FT n a s with
   | none=>grind
   | some p=>
    rw[ih _ _ _ hr];rw[hr]at h;obtain⟨e,s1⟩:=p;cases e with
    | normal=>exact ih _ _ _ h
    | exit _=>exact h
    | ret=>exact h
  case rangeFunc inner f ps a b=>
   rw[bC]at h ⊢;split at h
   . cases h
   . rename_i hi;rw[if_neg hi];grind[uN]
theorem uO {n m:Nat}(h:n<=m):uL (bC ext inv FT n) (bC ext inv FT m):=by
 induction h with
 | refl=>exact fun _ _ _ h=>h
 | step _ ih=>exact fun c s x hx=>QR _ c s x (ih c s x hx)
end Go.Ab
namespace Go.Ab
variable {P:Program} {gl:Nat->Option AV} {w:World} {ext:FuncId->List AV->ae->Option HR} {FT:FuncId->Option dh}
def bare:aO:=⟨fun _=>.fresh,fun _=>False⟩
theorem QS (hgl:∀g v,gl g=some v->V bare w v (.pointer (some ⟨g,0,none⟩))):Mem P gl bare [] w:=
 ⟨am,fun _ _=>rfl,fun b b' c d d' h=>(by cases h),fun b c d h=>(by cases h),fun c h=>False.elim h,fun b c d h=>(by cases h),hgl⟩
theorem GY (hmix:P.follows .mixedOrders=true)(hext:cY P gl ext)(hFT:mE P gl FT){n:Nat}{f:FuncId}{as:List AV}{q:HR}(hq:gW (bC ext (fD P) FT n) FT f as []=some q)
 (hgl:∀g v,gl g=some v->V bare w v (.pointer (some ⟨g,0,none⟩))) {as':List Value} (hv:VL bare w as as') :
 Calls P f as'.toArray w fun e w'=>∃v',e = .returned v'/\(∃ρ',V ρ' w' q.v v')/\w'.os=w.os/\w'.tape=w.tape/\w'.output=w.output/\w.heap.size<=w'.heap.size/\∀c,c<w.heap.size->w'.heap[c]? = w.heap[c]? := by
 obtain⟨_,h2⟩:=uA (by grind[As]) hFT hq (QS hgl) hv;have h3:=callsIn_wide.1 h2;refine h3.mono fun e w' he=>?_
 cases e with
 | returned v=>
  obtain⟨ρ',hv',m',x⟩:=he;exact⟨v,rfl,⟨ρ',hv'⟩,x.os,x.tape,x.output,x.size,fun c hc=>x.dc c hc fun b d hb=>by cases hb⟩
 | panicked _=>grind
 | outgrown=>grind
end Go.Ab
namespace Go.Ab
open Go.ChangeShapes Go.WideShapes Go.RowKit
variable {H:Type} {enc:TypeId×Value->H} {P:Program}
theorem GZ {W W':World}(h:W'.os=W.os/\W'.tape=W.tape/\W'.output=W.output/\W.heap.size<=W'.heap.size/\∀c,c<W.heap.size->W'.heap[c]? = W.heap[c]?):Below W.heap.size W W':=
 ⟨h.1,h.2.1,h.2.2.1,h.2.2.2.1,h.2.2.2.2⟩
theorem Ha (hl:laidOutB P=true){W W':World}(hb:Below W.heap.size W W'):∀{ts:List TypeId} {vs:List Value} {ds:List (DataW H)} {ps:List MemPlace},(∀t∈ts,P.readableRec t=true/\t<P.types.size) ->
 DataW.TrodAll enc P W 0 (fun _=>true) true ts vs ds ps->(∀x∈ps,x.block<W.heap.size)->∀sp:Nat->Bool,(∀p∈ps,sp p.block=true)->DataW.TrodAll enc P W' 0 sp true ts vs ds ps
 | [],vs,ds,ps,_,h,_,sp,_=>by obtain⟨rfl,rfl,rfl⟩:=trodAll_nil h;rfl
 | t::ts,vs,ds,ps,ht,h,hlt,sp,hsp=>by
  obtain⟨v,vs',d,ds',p,q,rfl,rfl,rfl,h1,h2⟩:=trodAll_cons h;obtain⟨g1,g2⟩:=ht t am;refine trodAll_cons_mk (WideElems.Trod_stays hl g1 g2 h1 (fun x hx=>hb.same (hlt x (by simp[hx]))) (fun x hx=>hsp x (by simp[hx]))) ?_;exact Ha hl hb (fun t ht'=>ht t (by simp[ht'])) h2 (fun x hx=>hlt x (by simp[hx])) sp fun x hx=>hsp x (by simp[hx])
theorem QT {f:Func}{s:ChangeSpec}{apart fresh handsOn again:Bool}{W W':World}{args:Array Value}{ds gs:List (DataW H)}{before:List MemPlace}(hW:DataW.Whole enc P f.params.toList s.vars apart W args.toList ds gs before)
 (hl:laidOutB P=true) (ht:∀t∈f.params.toList,P.readableRec t=true/\t<P.types.size) (hvars:s.vars=[]) (hb:Below W.heap.size W W')
 {bt:TypeId} (hbt:P.underlying bt=some .bool) (hrt:f.resultTypes = #[bt]) (h1:(s.fn H (ds++gs)).results=[.lit (.bool true)]) (h2:(s.fn H (ds++gs)).args=ds) (h3:(s.fn H (ds++gs)).vars=[]) :
 s.post enc P f apart fresh handsOn again W args (.bool true) W':=by
 have hlt:∀x∈before,x.block<W.heap.size:=fun x hx=>by simpa using hW.lt x hx
 have hold:∀p∈before,(fun b=>decide (b<W.heap.size)) p.block=true:=au;have hW':=hW;obtain⟨p,q,hA,hV,hpq,hz,hn⟩:=hW';rw[hvars]at hV;obtain⟨hgs,hq⟩:=trodVars_none hV;subst hq;rw[List.append_nil]at hpq;subst hpq;have hargs:=Ha hl hb ht hA hlt;have hargs':∀sp:Nat->Bool,(∀p∈before,sp p.block=true)->DataW.TrodAll enc P W' 0 sp true f.params.toList args.toList (s.fn H (ds++gs)).args before:=by
  rw[h2];exact hargs
 have hres:∀(b:Nat) (sp:Nat->Bool) (hd:Bool),DataW.TrodAll enc P W' b sp hd f.resultTypes.toList ((Value.bool true).resultList f.resultTypes.size) (s.fn H (ds++gs)).results []:=by
  intro b sp hd;rw[h1,hrt];exact trodAll_cons_mk (shut_bool hbt true) trodAll_mk0
 have hvar:∀sp:Nat->Bool,DataW.TrodVars enc P W' sp s.vars (s.fn H (ds++gs)).vars []:=by
  intro sp;rw[hvars,h3];rfl
 have hkept:W.keptBut W' (fun _=>False):=by
  refine⟨hb.os,hb.output,fun i hi=>?_⟩;have:=(World.keptBut_refl W (fun _=>False)).2.2 i hi;rw[hb.block i hi];exact this
 refine⟨ds,gs,before,[],before,[],hW,hres _ _ _,hargs' _ hold,hvar _,World.keptBut_mono am hkept,fun _=>?_⟩;refine⟨ok_one hrt rfl (okWide_bool_mk hbt true),_,_,([]++before)++[],⟨[]++before,[],trodAll_append (hargs' _ (fun _ _=>rfl)) (hres _ _ _),hvar _,rfl,?_,?_⟩,?_⟩
 . intro b off hp;have hp':MemPlace.cell b off∈before:=by simpa using hp
   have hlt':=hlt _ hp';rw[FN (w:=W) (hb.block b hlt')];exact hz b off hp'
 . grind
 grind
end Go.Ab
namespace Go.Ab
variable {ks:List Nat} {N:Nat}
variable {P:Program} {gl:Nat->Option AV} {ρ:aO} {w:World} {h:ae}
mutual
def dV:AV->Bool
 | .vp l=>l.isEmpty
 | .vs l _ _=>l.isEmpty
 | .fn _ a b=>fP a && fP b
 | .iface _ v=>dV v
 | .agg l=>fP l
 | .ay l=>fP l
 | _=>true
def fP:List AV->Bool
 | []=>true
 | v::r=>dV v && fP r
end
theorem gY:∀{l:List AV} {i:Nat} {x:AV},fP l=true->l[i]? = some x->dV x=true
 | [],i,x,_,h=>by simp at h
 | v::r,0,x,h,hx=>by simp only[fP,aY]at h;grind
 | v::r,i+1,x,h,hx=>by simp only[fP,aY]at h;simp at hx;exact gY h.2 hx
inductive Rn (ks:List Nat) (N:Nat):AV->AV->Prop
 | same {v:AV} (ht:v.top=0):Rn ks N v v
 | sl {i b off len esz:Nat} {cap:Option Nat} (hi:ks[i]? = some b):Rn ks N (.sl b off len esz cap) (.sl (N+i) off len esz cap)
 | ptr {i b off:Nat} (hi:ks[i]? = some b):Rn ks N (.ptr b off) (.ptr (N+i) off)
 | map {i b:Nat} (hi:ks[i]? = some b):Rn ks N (.map b) (.map (N+i))
 | vs {l l0:List AV} {n:Nat} {cap:Option Nat} (hl:l.length=l0.length) (hg:∀(i:Nat) x y,l[i]? = some x->l0[i]? = some y->Rn ks N x y):Rn ks N (.vs l n cap) (.vs l0 n cap)
 | agg {l l0:List AV} (hl:l.length=l0.length) (hg:∀(i:Nat) x y,l[i]? = some x->l0[i]? = some y->Rn ks N x y):Rn ks N (.agg l) (.agg l0)
 | ay {l l0:List AV} (hl:l.length=l0.length) (hg:∀(i:Nat) x y,l[i]? = some x->l0[i]? = some y->Rn ks N x y):Rn ks N (.ay l) (.ay l0)
 | fn {f:Fn} {fi fi0 ca ca0:List AV} (hf:∀l,f≠.yield l) (h1:fi.length=fi0.length) (h2:ca.length=ca0.length) (g1:∀(i:Nat) x y,fi[i]? = some x->fi0[i]? = some y->Rn ks N x y)
     (g2:∀(i:Nat) x y,ca[i]? = some x->ca0[i]? = some y->Rn ks N x y):Rn ks N (.fn f fi ca) (.fn f fi0 ca0)
def kf (ks:List Nat)(N:Nat)(l l0:List AV):Prop:=l.length=l0.length/\∀(i:Nat) x y,l[i]? = some x->l0[i]? = some y->Rn ks N x y
inductive rG (ks:List Nat) (N:Nat):cd->cd->Prop
 | cells {l l0:List AV} {e:TypeId} (h:kf ks N l l0):rG ks N (.cells l e) (.cells l0 e)
 | map {es es0:List (AV×AV)} (h1:kf ks N (es.map (·.1)) (es0.map (·.1))) (h2:kf ks N (es.map (·.2)) (es0.map (·.2))):rG ks N (.map es) (.map es0)
def uP:cd->Bool
 | .cells l _=>fP l
 | .map es=>fP (es.map (·.1)) && fP (es.map (·.2))
 | _=>true
theorem kf.nil:kf ks N [] []:=⟨rfl,am⟩
theorem kf.cons {x y:AV}{l m:List AV}(h1:Rn ks N x y)(h2:kf ks N l m):kf ks N (x::l) (y::m):=by
 refine⟨by simp[h2.1],fun i a b ha hb=>?_⟩;cases i with
 | zero=>grind
 | succ i=>simp at ha hb;exact h2.2 i a b ha hb
theorem kf.same {l:List AV}(ht:bG l=0):kf ks N l l:=
 ⟨rfl,fun i x y hx hy=>by rw[hx]at hy;cases hy;exact .same (by have:=fF (n:=0) ac i x hx;omega)⟩
theorem Hb {ρ' ρ1:aO}{a:AV}{v:Value}(ht:a.top=0)(hn:dV a=true)(hv:V ρ' w a v):V ρ1 w a v:=by
 have key:∀{a v},V ρ' w a v->a.top=0->dV a=true->V ρ1 w a v:=by
  intro a v hv;induction hv with
  | dI v=>exact fun _ _=>.dI v
  | bool b=>exact fun _ _=>.bool b
  | int k n=>exact fun _ _=>.int k n
  | str s=>exact fun _ _=>.str s
  | ff=>exact fun _ _=>.ff
  | ptr o hb=>exact fun h _=>by simp[AV.top]at h
  | fj o c o' hb=>exact fun h _=>by simp[AV.top]at h
  | @vp l c o g hf hc _ ih=>intro _ hn;simp only[dV,g9]at hn;subst hn;exact .vp c o g am am am
  | ab=>exact fun _ _=>.ab
  | sl hb hl hcap hs=>exact fun h _=>by simp[AV.top]at h
  | gn hb=>exact fun h _=>by simp[AV.top]at h
  | fE c o' hb hl hcap=>exact fun h _=>by simp[AV.top]at h
  | fS hb=>exact fun h _=>by simp[AV.top]at h
  | gp a hb=>exact fun h _=>by simp[AV.top]at h
  | @vs l len capC cap c o g hf hl hcap hc _ ih=>intro _ hn;simp only[dV,g9]at hn;subst hn;exact .vs c o g am hl hcap am am
  | fm hcap=>exact fun _ _=>.fm hcap
  | fT a hcap=>exact fun _ _=>.fT a hcap
  | dT=>exact fun _ _=>.dT
  | map hb=>exact fun h _=>by simp[AV.top]at h
  | iH v hb=>exact fun h _=>by simp[AV.top]at h
  | yield hb=>exact fun h _=>by simp[AV.top]at h
  | @fn f fi ca _ _ hf h1 h2 _ _ ih1 ih2=>
   intro h hn;have hh:bG fi<=0/\bG ca<=0:=by
    cases f <;> simp only[AV.top]at h <;> exact⟨ac,ac⟩
   simp only[dV,aY]at hn;exact .fn hf h1 h2 (fun i x y a b=>ih1 i x y a b (by have:=fF hh.1 i x a;omega) (gY hn.1 a)) (fun i x y a b=>ih2 i x y a b (by have:=fF hh.2 i x a;omega) (gY hn.2 a))
  | iq v hb=>exact fun h _=>by simp[AV.top]at h
  | eZ=>exact fun _ _=>.eZ
  | iface _ ih=>exact fun h hn=>.iface (ih (by simpa only[AV.top] using h) (by simpa only[dV] using hn))
  | eh=>exact fun _ _=>.eh
  | agg hl _ ih=>exact fun h hn=>.agg hl (fun i x y a b=>ih i x y a b (by have:=fF (n:=0) (by simpa only[AV.top,Nat.le_zero] using h) i x a;omega) (gY (by simpa only[dV] using hn) a))
  | ay hl _ ih=>exact fun h hn=>.ay hl (fun i x y a b=>ih i x y a b (by have:=fF (n:=0) (by simpa only[AV.top,Nat.le_zero] using h) i x a;omega) (gY (by simpa only[dV] using hn) a))
 grind
theorem Rn.view {ρ' ρ1:aO}(hρ:∀(i b:Nat),ks[i]? = some b->ρ1 (N+i)=ρ' b){a a1:AV}(hr:Rn ks N a a1) :
 (dV a=true\/∀c,dv ρ' c->dv ρ1 c)->∀{v:Value},V ρ' w a v->V ρ1 w a1 v:=by
 induction hr with
 | @same a ht=>
  intro hF v hv;rcases hF with hF|hF
  . exact Hb ht hF hv
  . exact hv.gM (n:=0) am hF ac
 | sl hi=>
  intro _ v hv;cases hv with
  | sl h1 h2 h3 h4=>exact .sl au h2 h3 h4
  | gn h1=>exact .gn au
  | fE c o' h1 h2 h3=>exact .fE c o' au h2 h3
  | fS h1=>exact .fS au
  | gp a h1=>exact .gp a au
 | ptr hi=>
  intro _ v hv;cases hv with
  | ptr _ h1=>exact .ptr _ au
  | fj _ _ _ h1=>exact .fj _ _ _ au
 | map hi=>
  intro _ v hv;cases hv with
  | map h1=>exact .map au
  | iH c h1=>exact .iH c au
 | @vs l l0 n cap hl hg ih=>
  intro hF v hv;cases hv with
  | vs c o g hf h2 h3 h4 h5=>
   by_cases hn:l=[]
   . subst hn;have:l0=[]:=au;subst this;exact .vs c o g am h2 h3 am am
   . have hF':∀c,dv ρ' c->dv ρ1 c:=by
      rcases hF with hF|hF
      . simp only[dV,g9]at hF;grind
      . exact hF
     refine .vs c o g au h2 h3 au (fun i y hy=>?_);have hi:i<l.length:=by have:=(aL.1 hy).1;omega
     exact ih i _ y (aR hi) hy (.inr hF') (h5 i _ (aR hi))
  | fm hc=>
   have:l0=[]:=au;subst this;exact .fm hc
  | fT a hc=>
   have:l0=[]:=au;subst this;exact .fT a hc
 | @agg l l0 hl hg ih=>
  intro hF v hv;cases hv with
  | @agg _ mm h1 h2=>
   refine .agg ac fun i y z hy hz=>?_
   have hi:i<l.length:=by have:=(aL.1 hy).1;omega
   exact ih i _ y (aR hi) hy (hF.imp (fun h=>by simp only[dV]at h;exact gY h (aR hi)) id) (h2 i _ z (aR hi) hz)
 | @ay l l0 hl hg ih=>
  intro hF v hv;cases hv with
  | @ay _ mm h1 h2=>
   refine .ay ac fun i y z hy hz=>?_
   have hi:i<l.length:=by have:=(aL.1 hy).1;omega
   exact ih i _ y (aR hi) hy (hF.imp (fun h=>by simp only[dV]at h;exact gY h (aR hi)) id) (h2 i _ z (aR hi) hz)
 | @fn f fi fi0 ca ca0 hf h1 h2 g1 g2 ih1 ih2=>
  intro hF v hv;cases hv with
  | fn hf' a1 a2 a3 a4=>
   refine .fn hf ac ac (fun i y z hy hz=>?_) (fun i y z hy hz=>?_)
   . have hi:i<fi.length:=by have:=(aL.1 hy).1;omega
     exact ih1 i _ y (aR hi) hy (hF.imp (fun h=>by simp only[dV,aY]at h;exact gY h.1 (aR hi)) id) (a3 i _ z (aR hi) hz)
   . have hi:i<ca.length:=by have:=(aL.1 hy).1;omega
     exact ih2 i _ y (aR hi) hy (hF.imp (fun h=>by simp only[dV,aY]at h;exact gY h.2 (aR hi)) id) (a4 i _ z (aR hi) hz)
  | yield _=>grind
  | iq _ _=>grind
inductive Fr (h:ae) (S:List Nat):AV->AV->Prop
 | same {v:AV} (ht:v.top=0):Fr h S v v
 | nil {cap:Option Nat} (hc:∀n,cap=some n->n=0):Fr h S .ab (.vs [] 0 cap)
 | sl {b off len esz:Nat} {cap cap':Option Nat} {l m m0:List AV} {e:TypeId} (hb:b∈S) (ha:h.at b=some (.cells l e)) (hc:cut l off (len*esz)=some m) (hl:m.length=m0.length)
     (hg:∀(i:Nat) x y,m[i]? = some x->m0[i]? = some y->Fr h S x y) (hcc:cap'=cap\/cap'=none:=by exact .inl rfl):Fr h S (.sl b off len esz cap) (.vs m0 len cap')
 | ptr {b off:Nat} {l m0:List AV} {e:TypeId} (hb:b∈S) (ha:h.at b=some (.cells l e)) (hl:(l.drop off).length=m0.length)
     (hg:∀(i:Nat) x y,(l.drop off)[i]? = some x->m0[i]? = some y->Fr h S x y):Fr h S (.ptr b off) (.vp m0)
 | vs {l l0:List AV} {n:Nat} {cap:Option Nat} (hl:l.length=l0.length) (hg:∀(i:Nat) x y,l[i]? = some x->l0[i]? = some y->Fr h S x y):Fr h S (.vs l n cap) (.vs l0 n cap)
 | agg {l l0:List AV} (hl:l.length=l0.length) (hg:∀(i:Nat) x y,l[i]? = some x->l0[i]? = some y->Fr h S x y):Fr h S (.agg l) (.agg l0)
 | ay {l l0:List AV} (hl:l.length=l0.length) (hg:∀(i:Nat) x y,l[i]? = some x->l0[i]? = some y->Fr h S x y):Fr h S (.ay l) (.ay l0)
 | fn {f:Fn} {fi fi0 ca ca0:List AV} (hf:∀l,f≠.yield l) (h1:fi.length=fi0.length) (h2:ca.length=ca0.length) (g1:∀(i:Nat) x y,fi[i]? = some x->fi0[i]? = some y->Fr h S x y)
     (g2:∀(i:Nat) x y,ca[i]? = some x->ca0[i]? = some y->Fr h S x y):Fr h S (.fn f fi ca) (.fn f fi0 ca0)
def fA (h:ae)(S:List Nat)(l l0:List AV):Prop:=l.length=l0.length/\∀(i:Nat) x y,l[i]? = some x->l0[i]? = some y->Fr h S x y
def dZ (ρ:aO)(S:List Nat):aO:=⟨fun _=>.fresh,fun c=>ρ.X c\/∃b d,ρ b = .live c d/\b∉S⟩
theorem dv.dZ {c:Nat}(S:List Nat)(hf:dv ρ c):dv (dZ ρ S) c:=by
 refine⟨fun b d hb=>by simp[Go.Ab.dZ]at hb,?_⟩;rintro(hx|⟨b,d,hb,_⟩)
 . exact hf.2 hx
 . exact hf.1 b d hb
theorem Fr.view (m:Mem P gl ρ h w){S:List Nat}{a a0:AV}(hr:Fr h S a a0):∀{v:Value},V ρ w a v->V (dZ ρ S) w a0 v:=by
 have hfree:∀{b c d},b∈S->ρ b = .live c d->dv (dZ ρ S) c:=fun {b c d} hb hl=>by
  refine⟨fun b d hb=>by simp[Go.Ab.dZ]at hb,?_⟩;rintro(hx|⟨b',d',hb',hn⟩)
  . exact m.xo _ _ _ hl hx
  . exact hn (m.inj _ _ _ _ _ hb' hl ▸ hb)
 have hat:∀{b o},h.at b=some o->h[b]? = some (some o):=fun {b o} hb=>by
  unfold ae.at at hb;grind
 induction hr with
 | same ht=>exact fun hv=>hv.gM (n:=0) am (fun c hc=>hc.dZ S) ac
 | nil hc=>
  intro v hv;cases hv;exact .fm hc
 | @sl b off len esz cap cap' l m' m0 e hb ha hc hl hg hcc ih=>
  intro v hv;have hB:=m.dJ b _ (hat ha);have hcut:m'.length=len*esz/\∀i,i<m'.length->m'[i]? = l[off+i]? := by
   simp only[cut]at hc;split at hc
   . grind
   . cases hc
  cases hv with
  | @sl _ c d _ _ _ capC _ h1 h2 h3 h4=>
   have h3:∀n,cap'=some n->capC=n:=au;rcases hB with ⟨c',d',cs,fr,g1,g2,g3,g4,g5⟩|⟨g1,_⟩
   . rw[h1]at g1;cases g1;refine .vs c (off+d) (fun i=>cs.getD (off+d+i) (.bool false)) au h2 h3 (fun i hi=>?_) (fun i y hy=>?_)
     . have hi':i<m'.length:=by omega
       have hlt:off+i<l.length:=by
        have:=hcut.2 i hi';rw[aR hi']at this;exact(aL.1 this.symm).1
       have:off+d+i<cs.size:=by have:=g3.1;omega
       simp only[lc,g2];simp[this,i7]
     . have hi:i<m0.length:=(aL.1 hy).1;have hi':i<m'.length:=by omega
       have hx:=hcut.2 i hi';rw[aR hi']at hx;have hlt:off+i<l.length:=(aL.1 hx.symm).1;have hs:off+d+i<cs.size:=by have:=g3.1;omega
       refine ih i m'[i] y (aR hi') hy ?_;refine g5 (off+i) _ _ hx.symm ?_;rw[show off+i+d=off+d+i from by omega];simp[hs,i7]
   grind
  | @gn _ _ h1=>
   rcases hB with ⟨c',d',cs,fr,g1,_⟩|⟨g1,g2⟩
   . grind
   . have:m0=[]:=au;subst this;exact .fm au
  | fE c o' h1 _ _=>
   rcases hB with ⟨c',d',cs,fr,g1,_⟩|⟨g1,g2⟩ <;> (rw[h1]at g1;cases g1)
  | gp a h1=>
   rcases hB with ⟨c',d',cs,fr,g1,_⟩|⟨g1,g2⟩ <;> (rw[h1]at g1;cases g1)
  | fS h1=>
   rcases hB with ⟨c',d',cs,fr,g1,_⟩|⟨g1,g2⟩ <;> (rw[h1]at g1;cases g1)
 | @ptr b off l m0 e hb ha hl hg ih=>
  intro v hv;have hB:=m.dJ b _ (hat ha);cases hv with
  | @ptr _ c d _ h1=>
   rcases hB with ⟨c',d',cs,fr,g1,g2,g3,g4,g5⟩|⟨g1,_⟩
   . rw[h1]at g1;cases g1;refine .vp c (off+d) (fun i=>cs.getD (off+d+i) (.bool false)) au (fun i hi=>?_) (fun i y hy=>?_)
     . have:off+d+i<cs.size:=by have:=g3.1;simp at hl;omega
       simp only[lc,g2];simp[this,i7]
     . have hi:i<m0.length:=(aL.1 hy).1;have hi':i<(l.drop off).length:=by omega
       have hlt:off+i<l.length:=by simp at hi';omega
       have hs:off+d+i<cs.size:=by have:=g3.1;omega
       refine ih i _ y (aR hi') hy ?_;refine g5 (off+i) _ _ am ?_;rw[show off+i+d=off+d+i from by omega];simp[hs,i7]
   grind
  | fj _ c o' h1=>
   rcases hB with ⟨c',d',cs,fr,g1,_⟩|⟨g1,g2⟩ <;> (rw[h1]at g1;cases g1)
 | @vs l l0 n cap hl hg ih=>
  intro v hv;cases hv with
  | vs c o g hf h2 h3 h4 h5=>
   refine .vs c o g (fun hn=>(hf fun e=>?_).dZ S) h2 h3 au (fun i y hy=>?_)
   . grind
   . have hi:i<l.length:=by have:=(aL.1 hy).1;omega
     exact ih i _ y (aR hi) hy (h5 i _ (aR hi))
  | fm hc=>
   have:l0=[]:=au;subst this;exact .fm hc
  | fT a hc=>
   have:l0=[]:=au;subst this;exact .fT a hc
 | @agg l l0 hl hg ih=>
  intro v hv;cases hv with
  | @agg _ mm h1 h2=>
   refine .agg ac fun i y z hy hz=>?_
   have hi:i<l.length:=by have:=(aL.1 hy).1;omega
   exact ih i _ y (aR hi) hy (h2 i _ z (aR hi) hz)
 | @ay l l0 hl hg ih=>
  intro v hv;cases hv with
  | @ay _ mm h1 h2=>
   refine .ay ac fun i y z hy hz=>?_
   have hi:i<l.length:=by have:=(aL.1 hy).1;omega
   exact ih i _ y (aR hi) hy (h2 i _ z (aR hi) hz)
 | @fn f fi fi0 ca ca0 hf h1 h2 g1 g2 ih1 ih2=>
  intro v hv;cases hv with
  | fn hf' a1 a2 a3 a4=>
   refine .fn hf ac ac (fun i y z hy hz=>?_) (fun i y z hy hz=>?_)
   . have hi:i<fi.length:=by have:=(aL.1 hy).1;omega
     exact ih1 i _ y (aR hi) hy (a3 i _ z (aR hi) hz)
   . have hi:i<ca.length:=by have:=(aL.1 hy).1;omega
     exact ih2 i _ y (aR hi) hy (a4 i _ z (aR hi) hz)
  | yield _=>grind
  | iq _ _=>grind
theorem fA.view (m:Mem P gl ρ h w){S:List Nat}{l l0:List AV}(hr:fA h S l l0){vs:List Value}(hv:VL ρ w l vs):VL (dZ ρ S) w l0 vs:=
 ⟨by rw[←hr.1];exact hv.1,fun i y z hy hz=>by
  have hi:i<l.length:=by have:=(aL.1 hy).1;have:=hr.1;omega
  exact(hr.2 i _ y (aR hi) hy).view m (hv.2 i _ z (aR hi) hz)⟩
theorem Mem.dZ (hgl:∀g v,gl g=some v->v.top=0)(m:Mem P gl ρ h w)(S:List Nat):Mem P gl (dZ ρ S) [] w:=by
 refine⟨am,fun b _=>rfl,?_,?_,?_,?_,fun g v hg=>?_⟩
 . intro b b' c d d' h1;simp[Go.Ab.dZ]at h1
 . intro b c d h1;simp[Go.Ab.dZ]at h1
 . rintro c (hc|⟨b,d,hb,_⟩)
   . exact m.xb c hc
   . exact m.bound b c d hb
 . intro b c d h1;simp[Go.Ab.dZ]at h1
 . exact(m.gl g v hg).gM (n:=0) am (fun c hc=>hc.dZ S) au
theorem Hc (m:Mem P gl ρ h w){S ks:List Nat}{v v1:AV}{hh:ae}{bs:List cd}{v':Value}{w':World}(hnd:ks.Nodup)(hv1:Rn ks h.length v v1)(hlen:ks.length=bs.length)
 (hbs:∀(i b:Nat) o1,ks[i]? = some b->bs[i]? = some o1->∃o,hh.at b=some o/\rG ks h.length o o1/\(S=[]\/uP o=true)) (hn:S=[]\/dV v=true) (hd:fo P gl (dZ ρ S) [] w ⟨v,hh,[]⟩ v' w') :
 fo P gl ρ h w ⟨v1,h++bs.map some,[]⟩ v' w':=by
 obtain⟨ρ',hv,m',x⟩:=hd;have dc:∀c,c<w.heap.size->w'.heap[c]? = w.heap[c]? := fun c hc=>x.dc c hc fun b d hb=>by simp[Go.Ab.dZ]at hb
 have new:∀b c d,ρ' b = .live c d->w.heap.size<=c:=fun b c d hb=>by
  rcases ba c w.heap.size with hc|hc
  . rcases x.back b c d hb hc with h1|⟨b0,d0,h1,_⟩ <;> simp[Go.Ab.dZ]at h1
  omega
 have hat:∀{b o},hh.at b=some o->hh[b]? = some (some o):=fun {b o} hb=>by
  unfold ae.at at hb;grind
 let ρ1:aO:=⟨fun b=>if b<h.length then ρ b else match ks[b-h.length]? with|some k=>ρ' k|none=>.fresh,ρ.X⟩
 have hlt:∀b,b<h.length->ρ1 b=ρ b:=au;have hge:∀(i k:Nat),ks[i]? = some k->ρ1 (h.length+i)=ρ' k:=au;have hback:∀b c d,h.length<=b->ρ1 b = .live c d->∃k:Nat,ks[b-h.length]? = some k/\ρ' k = .live c d:=au;have hfr:∀b,ρ b≠.fresh->b<h.length:=fun b hb=>by
  rcases ba b h.length with h1|h1
  . exact h1
  . exact absurd (m.fresh b h1) hb
 have E:Ext h (h++bs.map some) ρ ρ1 w w':=by
  refine⟨x.os,x.tape,x.output,x.size,am,rfl,?_,?_,?_,?_,?_,?_,?_,x.shape⟩
  . grind
  . grind
  . grind
  . grind
  . grind
  . grind
  . grind
 have hF:S=[]->∀c,dv ρ' c->dv ρ1 c:=by
  intro hS c hc;have hX:ρ'.X=(dZ ρ S).X:=x.X;have h2:=hc.2;rw[hX]at h2;refine⟨fun b d hb=>?_,fun hx=>h2 (.inl hx)⟩;rcases ba b h.length with h1|h1
  . rw[hlt b h1]at hb;exact h2 (.inr ⟨b,d,hb,au⟩)
  . obtain⟨k,_,hk⟩:=hback b c d h1 hb;exact hc.1 _ _ hk
 have hvs:∀{a a1:AV} {u:Value},(S=[]\/dV a=true)->Rn ks h.length a a1->V ρ' w' a u->V ρ1 w' a1 u:=fun {a a1 u} hc hr hu=>
  hr.view hge au hu
 refine⟨ρ1,hvs hn hv1 hv,m.ext E ?_ ?_ ?_ ?_,E⟩
 . intro b o hb;rcases ba b h.length with h1|h1
   . rw[b8 h1]at hb;exact(m.dJ b o hb).mono E (hlt b h1) fun c d hl=>dc c (m.bound b c d hl)
   . rw[dK h1]at hb;obtain⟨o1,hq,rfl⟩:∃o1,bs[b-h.length]? = some o1/\o1=o:=by grind
     have hi:b-h.length<ks.length:=by have:=(aL.1 hq).1;omega
     have hk:ks[b-h.length]? = some ks[b-h.length]:=aR hi;obtain⟨o,ho,hB,hnb⟩:=hbs _ _ _ hk hq;have hB':=m'.dJ _ _ (hat ho);have hb1:ρ1 b=ρ' ks[b-h.length]:=by have:=hge _ _ hk;rwa [show h.length+(b-h.length)=b from by omega]at this
     cases hB with
     | @cells l l0 e hl=>
      rcases hB' with ⟨c,d,cs,fr,g1,g2,g3,g4,g5⟩|⟨g1,g2⟩
      . refine .inl ⟨c,d,cs,fr,hb1.trans g1,g2,⟨by have:=hl.1;have:=g3.1;omega,fun he=>⟨(g3.2 he).1,by have:=hl.1;have:=(g3.2 he).2;omega⟩⟩,g4,fun i y z hy hz=>?_⟩;have hi:i<l.length:=by have:=(aL.1 hy).1;have:=hl.1;omega
        exact hvs (hnb.imp id fun hh'=>gY hh' (aR hi)) (hl.2 i _ y (aR hi) hy) (g5 i _ z (aR hi) hz)
      . refine .inr ⟨hb1.trans g1,?_⟩;have:=hl.1;grind
     | @map es es0 hl1 hl2=>
      obtain⟨c,ms,clk,g1,g2,g3,g4⟩:=hB';have hle:es.length=es0.length:=by have:=hl1.1;simpa using this
      refine⟨c,ms,clk,hb1.trans g1,g2,ac,fun i kx vx mm hx hm=>?_⟩;have hi:i<es.length:=by have:=(aL.1 hx).1;omega
      have he:es[i]? = some (es[i].1,es[i].2):=aR hi;obtain⟨q1,q2⟩:=g4 i _ _ mm he hm;have r1:=hl1.2 i es[i].1 kx (by simp[he]) (by simp[hx]);have r2:=hl2.2 i es[i].2 vx (by simp[he]) (by simp[hx]);have hnn:S=[]\/(dV es[i].1=true/\dV es[i].2=true):=hnb.imp id fun hh'=>by
       simp only[uP,aY]at hh';exact⟨gY hh'.1 (i:=i) (by simp[he]),gY hh'.2 (i:=i) (by simp[he])⟩
      grind
 . grind
 . intro b b' c d d' h1 h2;rcases ba b h.length with hb|hb <;> rcases ba b' h.length with hb'|hb'
   . rw[hlt b hb]at h1;rw[hlt b' hb']at h2;exact m.inj _ _ _ _ _ h1 h2
   . obtain⟨k,_,hk⟩:=hback _ _ _ hb' h2;rw[hlt b hb]at h1;have:=m.bound _ _ _ h1;grind
   . obtain⟨k,_,hk⟩:=hback _ _ _ hb h1;rw[hlt b' hb']at h2;have:=m.bound _ _ _ h2;grind
   . obtain⟨k,e1,hk⟩:=hback _ _ _ hb h1;obtain⟨k',e2,hk'⟩:=hback _ _ _ hb' h2;have:=m'.inj _ _ _ _ _ hk hk';subst this;obtain⟨l1,q1⟩:=aL.1 e1;obtain⟨l2,q2⟩:=aL.1 e2;have:=(List.getElem_inj hnd).1 (q1.trans q2.symm);omega
 . intro b c d hb;rcases ba b h.length with h1|h1
   . rw[hlt b h1]at hb;exact d8 (m.bound _ _ _ hb) x.size
   . obtain⟨k,_,hk⟩:=hback _ _ _ h1 hb;exact m'.bound _ _ _ hk
theorem Hd (hgl:∀g v,gl g=some v->v.top=0){f:Nat}{as as0:List AV}{v v1:AV}{hh:ae}{bs:List cd}{S ks:List Nat}(hr:fA h S as as0)(hnd:ks.Nodup)(hv1:Rn ks h.length v v1)(hlen:ks.length=bs.length)
 (hbs:∀(i b:Nat) o1,ks[i]? = some b->bs[i]? = some o1->∃o,hh.at b=some o/\rG ks h.length o o1/\(S=[]\/uP o=true)) (hn:S=[]\/dV v=true)
 (hloc:bw P gl ⟨f,as0,[],⟨v,hh,[]⟩⟩):bw P gl ⟨f,as,h,⟨v1,h++bs.map some,[]⟩⟩:=by
 refine⟨Ae _ _ _,fun ρ w as' m hl=>?_⟩;obtain⟨nx,w1,h1,h2⟩:=hloc.2 (dZ ρ S) w as' (m.dZ hgl S) (hr.view m hl);exact⟨nx,w1,h1,h2.mono fun v w' hd=>Hc m hnd hv1 hlen hbs hn hd⟩
end Go.Ab
namespace Go.Ab
variable {c:ao} {s:aw} {Q:aw->Prop} {l:List bj} {a b n:Int} {x y i:aS} {t:Nat} {pe as:List AV} {lo:List (Nat×AV)} {hp:ae} {df wr:List Nat} {d:fC} {v:AV} {r:HR} {k:IntKind}
structure az where
 ext:FuncId->List AV->ae->Option HR
 inv:fg
 FT:FuncId->Option dh
abbrev az.ev (M:az)(n:Nat):=bC M.ext M.inv M.FT n
abbrev az.call (M:az)(n:Nat):=iE (M.ev n) M.ext M.FT
structure W (M:az)(c:ao)(s:aw)(Q:Ex->aw->Prop):Prop where
 out:∃n e s',M.ev n c s=some (e,s')/\Q e s'
structure WO (M:az)(l:List bj)(s:aw)(Q:aw->Prop):Prop where
 out:∃n s',fz (M.call n) M.inv l s=some s'/\Q s'
structure WD (M:az)(l:List (bj×List Nat))(s:aw)(ds:List cD)(Q:aw->Prop):Prop where
 out:∃n s',eu (M.call n) M.inv l s ds=some s'/\Q s'
structure WC (M:az)(g:AV)(as:List AV)(h:ae)(Q:HR->Prop):Prop where
 out:∃n r,M.call n g as h=some r/\Q r
def bg (M:az)(f:FuncId)(as:List AV)(h:ae)(r:HR):Prop:=∃n,gW (M.ev n) M.FT f as h=some r
variable {M:az}
theorem uQ {n m:Nat}(h:n<=m){c:ao}{s:aw}{x:Ex×aw}(hx:M.ev n c s=some x):M.ev m c s=some x:=uO h c s x hx
theorem je {n m:Nat}(h:n<=m):pL (M.call n) (M.call m):=GX (uO h)
theorem W.mono {Q R:Ex->aw->Prop}(h:W M c s Q)(hr:∀e s',Q e s'->R e s'):W M c s R:=by
 obtain⟨⟨n,e,s',h1,h2⟩⟩:=h;exact⟨⟨n,e,s',h1,hr _ _ h2⟩⟩
theorem WO.mono {R:aw->Prop}(h:WO M l s Q)(hr:∀s',Q s'->R s'):WO M l s R:=by
 obtain⟨⟨n,s',h1,h2⟩⟩:=h;exact⟨⟨n,s',h1,hr _ h2⟩⟩
structure SQ (M:az)(b:ao)(Q:Ex->aw->Prop)(e:Ex)(s:aw):Prop where
 out:match e with
  | .normal=>W M b s Q
  | e=>Q e s
structure BQ (id:Nat)(Q:Ex->aw->Prop)(e:Ex)(s:aw):Prop where
 out:match e with
  | .exit i=>if i=id then Q .normal s else Q (.exit i) s
  | e=>Q e s
structure LQ (M:az)(c:ao)(Q:Ex->aw->Prop)(e:Ex)(s:aw):Prop where
 out:match e with
  | .normal=>W M (.loop c) s Q
  | e=>Q e s
theorem acn {Q:Ex->aw->Prop}(h:Q .normal s):W M .skip s Q:=⟨⟨1,.normal,s,rfl,h⟩⟩
theorem abZ {Q:Ex->aw->Prop}(h:Q .ret s):W M .ret s Q:=⟨⟨1,.ret,s,rfl,h⟩⟩
theorem acV {i:Nat}{Q:Ex->aw->Prop}(h:Q (.exit i) s):W M (.exit i) s Q:=⟨⟨1,.exit i,s,rfl,h⟩⟩
theorem aaK {a b:ao}{Q:Ex->aw->Prop}(h:W M a s (SQ M b Q)):W M (.seq a b) s Q:=by
 obtain⟨⟨n,e,s1,h1,⟨h2⟩⟩⟩:=h;cases e with
 | normal=>
  obtain⟨⟨m,e,s2,h3,h4⟩⟩:=h2;refine⟨⟨max n m+1,e,s2,?_,h4⟩⟩;show bC _ _ _ _ _ _=_;rw[bC,show bC M.ext M.inv M.FT (max n m) _ s=_ from uQ ac h1];exact uQ ac h3
 | exit i=>refine⟨⟨n+1,.exit i,s1,?_,h2⟩⟩;show bC _ _ _ _ _ _=_;rw[bC,show bC _ _ _ n a s=_ from h1]
 | ret=>refine⟨⟨n+1,.ret,s1,?_,h2⟩⟩;show bC _ _ _ _ _ _=_;rw[bC,show bC _ _ _ n a s=_ from h1]
theorem acu {id:Nat}{Q:Ex->aw->Prop}(h:W M c s (BQ id Q)):W M (.block id c) s Q:=by
 obtain⟨⟨n,e,s1,h1,⟨h2⟩⟩⟩:=h;have h1':bC M.ext M.inv M.FT n c s=some (e,s1):=h1;cases e with
 | normal=>refine⟨⟨n+1,.normal,s1,?_,h2⟩⟩;show bC _ _ _ _ _ _=_;rw[bC,h1']
 | ret=>refine⟨⟨n+1,.ret,s1,?_,h2⟩⟩;show bC _ _ _ _ _ _=_;rw[bC,h1']
 | exit i=>
  simp only at h2;split at h2
  . rename_i hi;refine⟨⟨n+1,.normal,s1,?_,h2⟩⟩;show bC _ _ _ _ _ _=_;rw[bC,h1'];grind
  . rename_i hi;refine⟨⟨n+1,.exit i,s1,?_,h2⟩⟩;show bC _ _ _ _ _ _=_;rw[bC,h1'];grind
theorem W.loop {Q:Ex->aw->Prop}(h:W M c s (LQ M c Q)):W M (.loop c) s Q:=by
 obtain⟨⟨n,e,s1,h1,⟨h2⟩⟩⟩:=h;have h1':bC M.ext M.inv M.FT n c s=some (e,s1):=h1;cases e with
 | normal=>
  obtain⟨⟨m,e,s2,h3,h4⟩⟩:=h2;refine⟨⟨max n m+1,e,s2,?_,h4⟩⟩;show bC _ _ _ _ _ _=_;rw[bC,show bC M.ext M.inv M.FT (max n m) _ s=_ from uQ ac h1];exact uQ ac h3
 | exit i=>refine⟨⟨n+1,.exit i,s1,?_,h2⟩⟩;show bC _ _ _ _ _ _=_;rw[bC,h1']
 | ret=>refine⟨⟨n+1,.ret,s1,?_,h2⟩⟩;show bC _ _ _ _ _ _=_;rw[bC,h1']
theorem aeX {t:Bool}{a b:ao}{Q:Ex->aw->Prop}(h:s.s.ah x=some (.bool t))(h1:t=true->W M a s Q)(h2:t=false->W M b s Q):W M (.cond x a b) s Q:=by
 cases t with
 | true=>
  obtain⟨⟨n,e,s',h3,h4⟩⟩:=h1 rfl;refine⟨⟨n+1,e,s',?_,h4⟩⟩;show bC _ _ _ _ _ _=_;rw[bC,h];exact h3
 | false=>
  obtain⟨⟨n,e,s',h3,h4⟩⟩:=h2 rfl;refine⟨⟨n+1,e,s',?_,h4⟩⟩;show bC _ _ _ _ _ _=_;rw[bC,h];exact h3
theorem ack {a b:ao}{Q:Ex->aw->Prop}(h:s.s.ah x=some (.bool true))(h1:W M a s Q):W M (.cond x a b) s Q:=aeX h (fun _=>h1) (fun h=>by cases h)
theorem acj {a b:ao}{Q:Ex->aw->Prop}(h:s.s.ah x=some (.bool false))(h1:W M b s Q):W M (.cond x a b) s Q:=aeX h (fun h=>by cases h) (fun _=>h1)
theorem aaI {Q:Ex->aw->Prop}(h:WO M l ⟨⟨pe,[],hp,df⟩,wr⟩ (Q .normal)):W M (.region l) ⟨⟨pe,lo,hp,df⟩,wr⟩ Q:=by
 obtain⟨⟨n,s',h1,h2⟩⟩:=h;refine⟨⟨n+1,.normal,s',?_,h2⟩⟩;show bC _ _ _ _ _ _=_;rw[bC,h1]
theorem adJ {l:List (bj×List Nat)}{Q:Ex->aw->Prop}(h:WD M l ⟨⟨pe,[],hp,df⟩,wr⟩ [] (Q .normal)):W M (.draw l) ⟨⟨pe,lo,hp,df⟩,wr⟩ Q:=by
 obtain⟨⟨n,s',h1,h2⟩⟩:=h;refine⟨⟨n+1,.normal,s',?_,h2⟩⟩;show bC _ _ _ _ _ _=_;rw[bC,h1]
theorem aaC (h:Q s):WO M [] s Q:=⟨⟨0,s,rfl,h⟩⟩
def bx.pM:bx->Bool
 | .call .. | .invoke .. => false
 | _=>true
structure WP (M:az)(s:St)(op:bx)(Q:HR->Prop):Prop where
 out:∃n r,cm (M.call n) M.inv s op=some r/\Q r
theorem WO.op {d:fC}{op:bx}{l:List bj}{s:aw}{Q:aw->Prop}(h:WP M s.s op fun r=>WO M l ⟨{ s.s.put d r.v with hp:=r.h },r.wr++s.wr⟩ Q):WO M (⟨d,op,none⟩::l) s Q:=by
 obtain⟨⟨n,r,h1,⟨⟨m,s',h2,h3⟩⟩⟩⟩:=h;refine⟨⟨max n m,s',?_,h3⟩⟩;simp only[fz,fa];rw[uM (je ac) h1];exact lI (je ac) _ _ _ h2
theorem WO.skip {op:bx}{t want:Bool}(hx:s.s.ah x=some (.bool t))(ht:(t == want)=false)(h:WO M l ⟨s.s.put d cV,s.wr⟩ Q):WO M (⟨d,op,some (x,want)⟩::l) s Q:=by
 obtain⟨⟨n,s',h1,h2⟩⟩:=h;refine⟨⟨n,s',?_,h2⟩⟩;simp only[fz,fa,hx,ht];exact h1
theorem WO.take {op:bx}{t want:Bool}(hx:s.s.ah x=some (.bool t))(ht:(t == want)=true)(h:WO M (⟨d,op,none⟩::l) s Q):WO M (⟨d,op,some (x,want)⟩::l) s Q:=by
 obtain⟨⟨n,s',h1,h2⟩⟩:=h;refine⟨⟨n,s',?_,h2⟩⟩;simp only[fz,fa,hx,ht]at h1 ⊢;exact h1
theorem WO.QU {op:bx}(hx:s.s.ah x=some (.ay [])){want:Bool}(h:WO M l ⟨s.s.put d cV,s.wr⟩ Q):WO M (⟨d,op,some (x,want)⟩::l) s Q:=by
 obtain⟨⟨n,s',h1,h2⟩⟩:=h;refine⟨⟨n,s',?_,h2⟩⟩;simp only[fz,fa,hx];exact h1
theorem adx {op:bx}(hx:s.s.ah x=some (.bool true))(h:WO M (⟨d,op,none⟩::l) s Q):WO M (⟨d,op,some (x,true)⟩::l) s Q:=WO.take hx rfl h
theorem aew {op:bx}(hx:s.s.ah x=some (.bool false))(h:WO M (⟨d,op,none⟩::l) s Q):WO M (⟨d,op,some (x,false)⟩::l) s Q:=WO.take hx rfl h
theorem aeU {op:bx}(hx:(St.mk pe lo hp df).ah x=some (.bool false))(h:WO M l ⟨⟨pe,(t,cV)::lo,hp,df⟩,wr⟩ Q):WO M (⟨.l t,op,some (x,true)⟩::l) ⟨⟨pe,lo,hp,df⟩,wr⟩ Q:=WO.skip hx rfl h
theorem afc {op:bx}(hx:(St.mk pe lo hp df).ah x=some (.bool true))(h:WO M l ⟨⟨pe,(t,cV)::lo,hp,df⟩,wr⟩ Q):WO M (⟨.l t,op,some (x,false)⟩::l) ⟨⟨pe,lo,hp,df⟩,wr⟩ Q:=WO.skip hx rfl h
theorem WP.pure {s:St}{op:bx}{Q:HR->Prop}(hh:op.bT=false)(hv:br s op=some v)(h:Q ⟨v,s.hp,[]⟩):WP M s op Q:=by
 refine⟨⟨0,_,?_,h⟩⟩;cases op <;> first|(cases hh;done)|simp only[cm,bx.bT,hv,bA,if_false,bW]
theorem WP.heap {s:St}{op:bx}{Q:HR->Prop}(hh:op.bT=true)(hc:op.pM=true)(hv:cg s op s.hp=some r)(h:Q r):WP M s op Q:=by
 refine⟨⟨0,_,?_,h⟩⟩;cases op <;> first|(cases hh;done)|(cases hc;done)|(simp only[cm,bx.bT,if_true];exact hv)
theorem WP.call {s:St}{f:aS}{args:List aS}{g:AV}{Q:HR->Prop}(hf:s.ah f=some g)(ha:s.cX args=some as)(h:WC M g as s.hp Q):WP M s (.call f args) Q:=by
 obtain⟨⟨n,r,h1,h2⟩⟩:=h;refine⟨⟨n,r,?_,h2⟩⟩;simp only[cm,hf,ha];exact h1
theorem WC.ext {f:FuncId}{fi ca:List AV}{h:ae}{Q:HR->Prop}(he:M.ext f (fi++as++ca) h=some r)(hq:Q r):WC M (.fn (.func f) fi ca) as h Q:=
 ⟨⟨0,r,by simp only[iE,he],hq⟩⟩
theorem WO.Ay {f:aS}{args:List aS}{g:FuncId}{fi ca:List AV}(hf:s.s.ah f=some (.fn (.func g) fi ca))(ha:s.s.cX args=some as)(he:M.ext g (fi++as++ca) s.s.hp=some r)
 (h:WO M l ⟨{ s.s.put d r.v with hp:=r.h },r.wr++s.wr⟩ Q):WO M (⟨d,.call f args,none⟩::l) s Q:=WO.op (WP.call hf ha (WC.ext he h))
theorem abx {op:bx}(hv:br ⟨pe,lo,hp,df⟩ op=some v)(hh:op.bT=false)(h:WO M l ⟨⟨pe,(t,v)::lo,hp,df⟩,wr⟩ Q) :
 WO M (⟨.l t,op,none⟩::l) ⟨⟨pe,lo,hp,df⟩,wr⟩ Q:=WO.op (WP.pure hh hv h)
theorem abO {i:Nat}{op:bx}(hv:br ⟨pe,lo,hp,df⟩ op=some v)(hh:op.bT=false)(h:WO M l ⟨⟨pe.set i v,lo,hp,df⟩,wr⟩ Q) :
 WO M (⟨.p i,op,none⟩::l) ⟨⟨pe,lo,hp,df⟩,wr⟩ Q:=WO.op (WP.pure hh hv h)
theorem WO.hl {op:bx}(hv:cg ⟨pe,lo,hp,df⟩ op hp=some r)(hh:op.bT=true)(hc:op.pM=true)
 (h:WO M l ⟨⟨pe,(t,r.v)::lo,r.h,df⟩,r.wr++wr⟩ Q):WO M (⟨.l t,op,none⟩::l) ⟨⟨pe,lo,hp,df⟩,wr⟩ Q:=WO.op (WP.heap hh hc hv h)
theorem WO.hn {op:bx}(hv:cg ⟨pe,lo,hp,df⟩ op hp=some r)(hh:op.bT=true)(hc:op.pM=true)
 (h:WO M l ⟨⟨pe,lo,r.h,df⟩,r.wr++wr⟩ Q):WO M (⟨.no,op,none⟩::l) ⟨⟨pe,lo,hp,df⟩,wr⟩ Q:=WO.op (WP.heap hh hc hv h)
theorem acE (hx:(St.mk pe lo hp df).ah x=some (.int k a))(hy:(St.mk pe lo hp df).ah y=some (.int k b))
 (h1:a<b->WO M l ⟨⟨pe,(t,.bool true)::lo,hp,df⟩,wr⟩ Q) (h2:b<=a->WO M l ⟨⟨pe,(t,.bool false)::lo,hp,df⟩,wr⟩ Q):WO M (⟨.l t,.bin .lss x y,none⟩::l) ⟨⟨pe,lo,hp,df⟩,wr⟩ Q:=by
 refine WO.op (WP.pure (v:=.bool (decide (a<b))) rfl (by simp[br,hx,hy,dO]) ?_);by_cases h:a<b
 . rw[decide_eq_true h];exact h1 h
 . rw[decide_eq_false h];exact h2 ac
theorem afK (hx:(St.mk pe lo hp df).ah x=some (.int k a))(hy:(St.mk pe lo hp df).ah y=some (.int k b))
 (h1:a<=b->WO M l ⟨⟨pe,(t,.bool true)::lo,hp,df⟩,wr⟩ Q) (h2:b<a->WO M l ⟨⟨pe,(t,.bool false)::lo,hp,df⟩,wr⟩ Q):WO M (⟨.l t,.bin .leq x y,none⟩::l) ⟨⟨pe,lo,hp,df⟩,wr⟩ Q:=by
 refine WO.op (WP.pure (v:=.bool (decide (a<=b))) rfl (by simp[br,hx,hy,dO]) ?_);by_cases h:a<=b
 . rw[decide_eq_true h];exact h1 h
 . rw[decide_eq_false h];exact h2 ac
theorem acI (hx:(St.mk pe lo hp df).ah x=some (.int k a))(hy:(St.mk pe lo hp df).ah y=some (.int k b))
 (h1:b<a->WO M l ⟨⟨pe,(t,.bool true)::lo,hp,df⟩,wr⟩ Q) (h2:a<=b->WO M l ⟨⟨pe,(t,.bool false)::lo,hp,df⟩,wr⟩ Q):WO M (⟨.l t,.bin .gtr x y,none⟩::l) ⟨⟨pe,lo,hp,df⟩,wr⟩ Q:=by
 refine WO.op (WP.pure (v:=.bool (decide (a > b))) rfl (by simp[br,hx,hy,dO]) ?_);by_cases h:b<a
 . rw[decide_eq_true h];exact h1 h
 . rw[decide_eq_false h];exact h2 ac
theorem aeY (hx:(St.mk pe lo hp df).ah x=some (.int k a))(hy:(St.mk pe lo hp df).ah y=some (.int k b))
 (h1:b<=a->WO M l ⟨⟨pe,(t,.bool true)::lo,hp,df⟩,wr⟩ Q) (h2:a<b->WO M l ⟨⟨pe,(t,.bool false)::lo,hp,df⟩,wr⟩ Q):WO M (⟨.l t,.bin .geq x y,none⟩::l) ⟨⟨pe,lo,hp,df⟩,wr⟩ Q:=by
 refine WO.op (WP.pure (v:=.bool (decide (a>=b))) rfl (by simp[br,hx,hy,dO]) ?_);by_cases h:b<=a
 . rw[decide_eq_true h];exact h1 h
 . rw[decide_eq_false h];exact h2 ac
theorem adw (hx:(St.mk pe lo hp df).ah x=some (.int k a))(hy:(St.mk pe lo hp df).ah y=some (.int k b))
 (h1:a=b->WO M l ⟨⟨pe,(t,.bool true)::lo,hp,df⟩,wr⟩ Q) (h2:a≠b->WO M l ⟨⟨pe,(t,.bool false)::lo,hp,df⟩,wr⟩ Q):WO M (⟨.l t,.bin .eql x y,none⟩::l) ⟨⟨pe,lo,hp,df⟩,wr⟩ Q:=by
 refine WO.op (WP.pure (v:=.bool (a == b)) rfl (by simp[br,hx,hy,dO]) ?_);by_cases h:a=b
 . rw[beq_iff_eq.2 h];exact h1 h
 . rw[beq_eq_false_iff_ne.2 h];exact h2 h
theorem adH (hx:(St.mk pe lo hp df).ah x=some (.int k a))(hy:(St.mk pe lo hp df).ah y=some (.int k b))
 (h1:a≠b->WO M l ⟨⟨pe,(t,.bool true)::lo,hp,df⟩,wr⟩ Q) (h2:a=b->WO M l ⟨⟨pe,(t,.bool false)::lo,hp,df⟩,wr⟩ Q):WO M (⟨.l t,.bin .neq x y,none⟩::l) ⟨⟨pe,lo,hp,df⟩,wr⟩ Q:=by
 refine WO.op (WP.pure (v:=.bool (a != b)) rfl (by simp[br,hx,hy,dO]) ?_);by_cases h:a=b
 . rw[bne_eq_false_iff_eq.2 h];exact h2 h
 . rw[bne_iff_ne.2 h];exact h1 h
theorem aeT {a b:List UInt8}(hx:(St.mk pe lo hp df).ah x=some (.str a))(hy:(St.mk pe lo hp df).ah y=some (.str b))
 (h1:a=b->WO M l ⟨⟨pe,(t,.bool true)::lo,hp,df⟩,wr⟩ Q) (h2:a≠b->WO M l ⟨⟨pe,(t,.bool false)::lo,hp,df⟩,wr⟩ Q):WO M (⟨.l t,.bin .eql x y,none⟩::l) ⟨⟨pe,lo,hp,df⟩,wr⟩ Q:=by
 refine WO.op (WP.pure (v:=.bool (a == b)) rfl (by simp[br,hx,hy,dO]) ?_);by_cases h:a=b
 . rw[beq_iff_eq.2 h];exact h1 h
 . rw[beq_eq_false_iff_ne.2 h];exact h2 h
theorem aeZ {a b:List UInt8}(hx:(St.mk pe lo hp df).ah x=some (.str a))(hy:(St.mk pe lo hp df).ah y=some (.str b))
 (h1:a≠b->WO M l ⟨⟨pe,(t,.bool true)::lo,hp,df⟩,wr⟩ Q) (h2:a=b->WO M l ⟨⟨pe,(t,.bool false)::lo,hp,df⟩,wr⟩ Q):WO M (⟨.l t,.bin .neq x y,none⟩::l) ⟨⟨pe,lo,hp,df⟩,wr⟩ Q:=by
 refine WO.op (WP.pure (v:=.bool !(a == b)) rfl (by simp[br,hx,hy,dO]) ?_);by_cases h:a=b
 . rw[beq_iff_eq.2 h];exact h2 h
 . rw[beq_eq_false_iff_ne.2 h];exact h1 h
theorem nP (h : -9223372036854775808<=n/\n<9223372036854775808):IntKind.i64.wrap n=n:=IntWalk.i64_in _ ac
theorem adz (hx:(St.mk pe lo hp df).ah x=some (.int .i64 a))(hy:(St.mk pe lo hp df).ah y=some (.int .i64 b))
 (hr : -9223372036854775808<=a+b/\a+b<9223372036854775808) (h:WO M l ⟨⟨pe,(t,.int .i64 (a+b))::lo,hp,df⟩,wr⟩ Q):WO M (⟨.l t,.bin .add x y,none⟩::l) ⟨⟨pe,lo,hp,df⟩,wr⟩ Q:=
 WO.op (WP.pure (v:=.int .i64 (a+b)) rfl (by simp[br,hx,hy,dO,nP hr]) h)
theorem aeR (hx:(St.mk pe lo hp df).ah x=some (.int .i64 a))(hy:(St.mk pe lo hp df).ah y=some (.int .i64 b))
 (hr : -9223372036854775808<=a-b/\a-b<9223372036854775808) (h:WO M l ⟨⟨pe,(t,.int .i64 (a-b))::lo,hp,df⟩,wr⟩ Q):WO M (⟨.l t,.bin .sub x y,none⟩::l) ⟨⟨pe,lo,hp,df⟩,wr⟩ Q:=
 WO.op (WP.pure (v:=.int .i64 (a-b)) rfl (by simp[br,hx,hy,dO,nP hr]) h)
theorem afr (hx:(St.mk pe lo hp df).ah x=some (.int .i64 a))(hy:(St.mk pe lo hp df).ah y=some (.int .i64 b))
 (hr : -9223372036854775808<=a*b/\a*b<9223372036854775808) (h:WO M l ⟨⟨pe,(t,.int .i64 (a*b))::lo,hp,df⟩,wr⟩ Q):WO M (⟨.l t,.bin .mul x y,none⟩::l) ⟨⟨pe,lo,hp,df⟩,wr⟩ Q:=
 WO.op (WP.pure (v:=.int .i64 (a*b)) rfl (by simp[br,hx,hy,dO,nP hr]) h)
theorem afv (hx:(St.mk pe lo hp df).ah x=some (.int .i64 a))(hy:(St.mk pe lo hp df).ah y=some (.int .i64 b))
 (hb:0<b) (hr : -9223372036854775808<=a/\a<9223372036854775808) (h:WO M l ⟨⟨pe,(t,.int .i64 (a.tdiv b))::lo,hp,df⟩,wr⟩ Q):WO M (⟨.l t,.bin .quo x y,none⟩::l) ⟨⟨pe,lo,hp,df⟩,wr⟩ Q:=by
 have hb':b≠0:=by omega
 have h1:(a.tdiv b).natAbs<=a.natAbs:=by rw[Int.natAbs_tdiv];exact Nat.div_le_self _ _
 have h2 : -9223372036854775808<=a.tdiv b/\a.tdiv b<9223372036854775808:=by
  rcases Int.le_total 0 a with h0|h0
  . omega
  . have:a.tdiv b<=0:=by
     have:=Int.tdiv_nonneg (a:=-a) (b:=b) ac ac;rw[Int.neg_tdiv]at this;omega
    omega
 exact WO.op (WP.pure (v:=.int .i64 (a.tdiv b)) rfl (by simp[br,hx,hy,dO,hb',nP h2]) h)
theorem afw (hx:(St.mk pe lo hp df).ah x=some (.int k a))(hy:(St.mk pe lo hp df).ah y=some (.int k b))
 (hb:b≠0) (h:WO M l ⟨⟨pe,(t,.int k (a.tmod b))::lo,hp,df⟩,wr⟩ Q):WO M (⟨.l t,.bin .rem x y,none⟩::l) ⟨⟨pe,lo,hp,df⟩,wr⟩ Q:=
 WO.op (WP.pure (v:=.int k (a.tmod b)) rfl (by simp[br,hx,hy,dO,hb]) h)
theorem afb {esz:Nat}{c:List AV}{len:Nat}{cap:Option Nat}(hx:(St.mk pe lo hp df).ah x=some (.vs c len cap))(hy:(St.mk pe lo hp df).ah i=some (.int k n))
 (hb:0<=n/\n<len) (h:WO M l ⟨⟨pe,(t,.vp (c.drop (n.toNat*esz)))::lo,hp,df⟩,wr⟩ Q):WO M (⟨.l t,.fy none esz x i,none⟩::l) ⟨⟨pe,lo,hp,df⟩,wr⟩ Q:=
 WO.op (WP.pure (v:=.vp (c.drop (n.toNat*esz))) rfl (by simp[br,hx,hy,po,hb]) h)
theorem afn {esz b o len:Nat}{cap:Option Nat}(hx:(St.mk pe lo hp df).ah x=some (.sl b o len esz cap))(hy:(St.mk pe lo hp df).ah i=some (.int k n))
 (hb:0<=n/\n<len) (h:WO M l ⟨⟨pe,(t,.ptr b (o+n.toNat*esz))::lo,hp,df⟩,wr⟩ Q):WO M (⟨.l t,.fy none esz x i,none⟩::l) ⟨⟨pe,lo,hp,df⟩,wr⟩ Q:=
 WO.op (WP.pure (v:=.ptr b (o+n.toNat*esz)) rfl (by simp[br,hx,hy,po,hb]) h)
theorem aft {s:List UInt8}(hx:(St.mk pe lo hp df).ah x=some (.str s))(hy:(St.mk pe lo hp df).ah i=some (.int k n))
 (hb:0<=n/\n<s.length) (h:WO M l ⟨⟨pe,(t,.int .u8 (s[n.toNat]!).toNat)::lo,hp,df⟩,wr⟩ Q):WO M (⟨.l t,.index x i,none⟩::l) ⟨⟨pe,lo,hp,df⟩,wr⟩ Q:=by
 have h1:n.toNat<s.length:=by omega
 refine WO.op (WP.pure (v:=.int .u8 (s[n.toNat]!).toNat) rfl ?_ h);simp[br,hx,hy,tQ,hb.1,h1]
theorem aa {b:ao}{s:aw}{Q}(h:W M b s Q):SQ M b Q .normal s:=⟨h⟩
theorem bh {b:ao}{s:aw}{Q}{i:Nat}(h:Q (.exit i) s):SQ M b Q (.exit i) s:=⟨h⟩
theorem aP {b:ao}{s:aw}{Q}(h:Q .ret s):SQ M b Q .ret s:=⟨h⟩
theorem bc {b:Nat}{s:aw}{Q}(h:Q .normal s):BQ b Q .normal s:=⟨h⟩
theorem bH {b:Nat}{s:aw}{Q}(h:Q .ret s):BQ b Q .ret s:=⟨h⟩
theorem bk {b:Nat}{s:aw}{Q}(h:Q .normal s):BQ b Q (.exit b) s:=⟨au⟩
theorem cB {b i:Nat}{s:aw}{Q}(hn:c0 i b=false)(h:Q (.exit i) s):BQ b Q (.exit i) s:=
 ⟨by simp only;rw[if_neg (fun e=>by simp_all)];exact h⟩
theorem fV {b:ao}{s:aw}{Q}(h:W M (.loop b) s Q):LQ M b Q .normal s:=⟨h⟩
theorem bJ {b:ao}{s:aw}{Q}{i:Nat}(h:Q (.exit i) s):LQ M b Q (.exit i) s:=⟨h⟩
theorem cz {b:ao}{s:aw}{Q}(h:Q .ret s):LQ M b Q .ret s:=⟨h⟩
theorem bU {f N:Nat}{aV:List Nat}{res:List fK}{body:ao}{hh:ae}(hft:M.FT f=some ⟨N,aV,res,body⟩)(hN:as.length<=N)
 (h:W M body ⟨⟨aV.map (fun t=>(as[t]?).getD cV),[],[],[]⟩,[]⟩ fun e s=>(e = .normal\/e = .ret)/\s.s.cF=[]/\∃vs,dU s.s res=some vs/\aT vs=v/\(if v.top<=0 then [] else s.s.hp)=hh):bg M f as [] ⟨v,hh,[]⟩:=by
 obtain⟨⟨n,e,s,h1,h2,h3,vs,h4,h5,h6⟩⟩:=h;refine⟨n,?_⟩;have h1':bC M.ext M.inv M.FT n body ⟨⟨aV.map (fun t=>(as[t]?).getD cV),[],[],[]⟩,[]⟩=some (e,s):=h1;simp only[gW,hft];rw[if_neg ac];simp only[az.ev,h1',if_pos h2,h3,lj,h4];subst h5;subst h6;have ht:tight s.s.hp 0 s.wr=true:=by
  simp only[tight,ck];intro b _;split <;> simp
 have hf:s.wr.filter (fun b=>decide (b<0))=[]:=by simp
 simp only[gm,d7,ht,c8,hf,List.take_zero,decide_eq_true_eq]<;>grind
end Go.Ab
namespace Go.Ab
variable {FT:FuncId->Option dh} {h:ae} {S:List Nat}
variable {P:Program} {gl:Nat->Option AV}
abbrev Spec:=List AV->ae->Option HR
def bE:List (Nat×Spec)->FuncId->List AV->ae->Option HR
 | [],_,_,_=>none
 | (g,sp)::T,f,as,h=>if c0 g f then sp as h else bE T f as h
def aZ (P:Program)(gl:Nat->Option AV)(f:Nat)(sp:Spec):Prop:=∀as h r,sp as h=some r->bw P gl ⟨f,as,h,r⟩
theorem bK:cY P gl (bE []):=fun _ _ _ _ h=>by cases h
theorem aQ {f:Nat}{sp:Spec}{T:List (Nat×Spec)}(h:aZ P gl f sp)(hT:cY P gl (bE T)):cY P gl (bE ((f,sp)::T)):=by
 intro g all hp r hq;simp only[bE]at hq;split at hq
 . rename_i e;have e':=fX e;subst e';exact h _ _ _ hq
 . exact hT g all hp r hq
def nS (k:XK):Spec:=fun as h=>(k.run as).map fun v=>⟨v,h,[]⟩
theorem Az {f:Nat}{k:XK}(h:nL P f k):aZ P gl f (nS k):=by
 intro as hp r hq;have:=Av (P:=P) (gl:=gl) (L:=[(f,k)]) au f as hp r;simp only[nM,Nat.beq_refl,if_true]at this;simp only[nS,be]at hq;obtain⟨v,hv,rfl⟩:=hq;exact this au
def AA (as0:List AV)(v:AV):Spec:=fun as h=>if uF as as0 then some ⟨v,h,[]⟩ else none
theorem QV (hgl:∀g v,gl g=some v->v.top=0){f:Nat}{as0:List AV}{v:AV}(hv:v.top=0)(htop:bG as0=0)(hloc:bw P gl ⟨f,as0,[],⟨v,[],[]⟩⟩):aZ P gl f (AA as0 v):=by
 intro as h r hq;simp only[AA]at hq;split at hq
 . rename_i e;have e':=GQ e;subst e';cases hq;have:=Hd (h:=h) (S:=[]) (ks:=[]) (bs:=[]) hgl (as:=as) ⟨rfl,fun i x y hx hy=>by rw[hx]at hy;cases hy;exact .same (by have:=fF (n:=0) ac i x hx;omega)⟩ am (.same hv) rfl am (.inl rfl) hloc<;>grind
 grind
structure kh (P:Program)(gl:Nat->Option AV)(FT:FuncId->Option dh):Prop where
 mix:P.follows .mixedOrders=true
 ft:mE P gl FT
 gl:∀g v,gl g=some v->v.top=0
abbrev bz (P:Program)(FT:FuncId->Option dh)(T:List (Nat×Spec)):az:=⟨bE T,fD P,FT⟩
theorem rE (hs:kh P gl FT){T:List (Nat×Spec)}(hT:cY P gl (bE T)){f:Nat}{as:List AV}{h:ae}{r:HR}(hr:bg (bz P FT T) f as h r)(hw:fO h r):bw P gl ⟨f,as,h,r⟩:=by
 obtain⟨n,hn⟩:=hr;refine⟨hw,fun ρ w as' m hv=>?_⟩;obtain⟨h1,h2⟩:=uA (As hs.mix hT hs.ft n) hs.ft hn m hv;refine⟨_,_,h1,?_⟩;refine CallsIn.mono h2 fun e w' he=>?_<;>grind
theorem He (hs:kh P gl FT){T:List (Nat×Spec)}(hT:cY P gl (bE T)){f:Nat}{as as0:List AV}{h:ae}{S ks:List Nat}{v v1:AV}{hh:ae}{bs:List cd}(hr:bg (bz P FT T) f as0 [] ⟨v,hh,[]⟩)
 (hv:fA h S as as0) (hnd:ks.Nodup) (hv1:Rn ks h.length v v1) (hlen:ks.length=bs.length)
 (hbs:∀(i b:Nat) o1,ks[i]? = some b->bs[i]? = some o1->∃o,hh.at b=some o/\rG ks h.length o o1/\(S=[]\/uP o=true)) (hn:S=[]\/dV v=true):bw P gl ⟨f,as,h,⟨v1,h++bs.map some,[]⟩⟩:=
 Hd hs.gl hv hnd hv1 hlen hbs hn (rE hs hT hr ⟨i5 _,fun _ hb=>au⟩)
theorem jI (hs:kh P gl FT){T:List (Nat×Spec)}(hT:cY P gl (bE T)){f:Nat}{as as0:List AV}{h hh:ae}{S:List Nat}{v:AV}(hr:bg (bz P FT T) f as0 [] ⟨v,hh,[]⟩)
 (hv:fA h S as as0) (ht:v.top=0) (hn:S=[]\/dV v=true):bw P gl ⟨f,as,h,⟨v,h,[]⟩⟩:=by
 have:=He hs hT (ks:=[]) (bs:=[]) hr hv am (.same ht) rfl am hn<;>grind
theorem fA.nil:fA h S [] []:=⟨rfl,am⟩
theorem fA.cons {x y:AV}{l m:List AV}(h1:Fr h S x y)(h2:fA h S l m):fA h S (x::l) (y::m):=by
 refine⟨by simp[h2.1],fun i a b ha hb=>?_⟩;cases i with
 | zero=>grind
 | succ i=>simp at ha hb;exact h2.2 i a b ha hb
theorem fA.same {l:List AV}(ht:bG l=0):fA h S l l:=
 ⟨rfl,fun i x y hx hy=>by rw[hx]at hy;cases hy;exact .same (by have:=fF (n:=0) ac i x hx;omega)⟩
def arr {α:Type}(f:α->List AV)(l:List α):List AV:=l.flatMap f
def ints (l:List Int):List AV:=arr (fun x=>[.int .i64 x]) l
theorem QW {a b:List AV}:fP (a++b)=(fP a && fP b):=by
 induction a with
 | nil=>rfl
 | cons x a ih=>simp only[f7,fP,ih,Bool.and_assoc]
theorem pN {α:Type}{f:α->List AV}(hf:∀a,fP (f a)=true):∀l:List α,fP (arr f l)=true
 | []=>rfl
 | a::l=>by
  have:=pN hf l;simp only[arr,gR,QW,hf]at this ⊢;simpa using this
def Sl {α:Type}(f:α->List AV)(h:ae)(v:AV)(l:List α):Prop:=
 (v = .ab/\l=[])\/(∃cap,v = .vs (arr f l) l.length cap)\/(∃b off esz cap c e,v = .sl b off l.length esz cap/\h.at b=some (.cells c e)/\cut c off (l.length*esz)=some (arr f l))
theorem QX {a b:List AV}:bG (a++b)=max (bG a) (bG b):=by
 induction a with
 | nil=>rfl
 | cons x a ih=>simp only[f7,bG,ih];omega
theorem pO {α:Type}{f:α->List AV}(hf:∀a,bG (f a)=0):∀l:List α,bG (arr f l)=0
 | []=>rfl
 | a::l=>by
  have:=pO hf l;simp only[arr,gR,QX,hf]at this ⊢;omega
theorem Sl.fr {α:Type}{f:α->List AV}(hf:∀a,bG (f a)=0){h:ae}{v:AV}{l:List α}(hs:Sl f h v l):∃S cap,Fr h S v (.vs (arr f l) l.length cap):=by
 rcases hs with ⟨rfl,rfl⟩|⟨cap,rfl⟩|⟨b,off,esz,cap,c,e,rfl,h1,h2⟩
 . exact⟨[],none,.nil am⟩
 . exact⟨[],cap,.same (by simp only[AV.top];exact pO hf l)⟩
 . refine⟨[b],cap,.sl am h1 h2 rfl fun i x y hx hy=>?_⟩;rw[hx]at hy;cases hy;exact .same (by have:=fF (n:=0) (Nat.le_of_eq (pO hf l)) i x hx;omega)
end Go.Ab
namespace Go.Ab
variable {t n b:Nat} {l:List bj} {pe:List AV} {lo:List (Nat×AV)} {hp h' h:ae} {df wr w':List Nat} {v a:AV} {Q:aw->Prop} {op:bx} {ag:Bool} {x:aS} {o:Option cd}
variable {M:az}
theorem acJ {c a b:aS}(hc:(St.mk pe lo hp df).ah c=some (.bool true))(ha:(St.mk pe lo hp df).ah a=some v)
 (h:WO M l ⟨⟨pe,(t,v)::lo,hp,df⟩,wr⟩ Q):WO M (⟨.l t,.pick c a b,none⟩::l) ⟨⟨pe,lo,hp,df⟩,wr⟩ Q:=
 WO.op (WP.pure (v:=v) rfl (by simp only[br,hc,ha];cases (St.mk pe lo hp df).ah b <;> simp) h)
theorem adt {c a b:aS}(hc:(St.mk pe lo hp df).ah c=some (.bool false))(hb:(St.mk pe lo hp df).ah b=some v)
 (h:WO M l ⟨⟨pe,(t,v)::lo,hp,df⟩,wr⟩ Q):WO M (⟨.l t,.pick c a b,none⟩::l) ⟨⟨pe,lo,hp,df⟩,wr⟩ Q:=
 WO.op (WP.pure (v:=v) rfl (by simp only[br,hc,hb];cases (St.mk pe lo hp df).ah a <;> simp) h)
theorem acH (hv:cg ⟨pe,lo,hp,df⟩ op hp=some ⟨v,h',w'⟩)(hh:op.bT=true)(hc:op.pM=true)
 (h:WO M l ⟨⟨pe,(t,v)::lo,h',df⟩,w'++wr⟩ Q):WO M (⟨.l t,op,none⟩::l) ⟨⟨pe,lo,hp,df⟩,wr⟩ Q:=WO.op (WP.heap hh hc hv h)
theorem acv {i:Nat}(hv:cg ⟨pe,lo,hp,df⟩ op hp=some ⟨v,h',w'⟩)(hh:op.bT=true)(hc:op.pM=true)
 (h:WO M l ⟨⟨pe.set i v,lo,h',df⟩,w'++wr⟩ Q):WO M (⟨.p i,op,none⟩::l) ⟨⟨pe,lo,hp,df⟩,wr⟩ Q:=WO.op (WP.heap hh hc hv h)
theorem aeS (hv:cg ⟨pe,lo,hp,df⟩ op hp=some ⟨v,h',w'⟩)(hh:op.bT=true)(hc:op.pM=true)
 (h:WO M l ⟨⟨pe,lo,h',df⟩,w'++wr⟩ Q):WO M (⟨.no,op,none⟩::l) ⟨⟨pe,lo,hp,df⟩,wr⟩ Q:=WO.op (WP.heap hh hc hv h)
theorem mH {α:Type}{f:α->List AV}(a:α)(l:List α):arr f (a::l)=f a++arr f l:=rfl
theorem QY {α:Type}{f:α->List AV}(l m:List α):arr f (l++m)=arr f l++arr f m:=by simp[arr]
section
variable {α:Type} {f:α->List AV} {esz:Nat}
theorem pP (hf:∀a,(f a).length=esz):∀l:List α,(arr f l).length=l.length*esz
 | []=>by simp[arr]
 | a::l=>by rw[mH,cn,hf,pP hf l,d6,j6];omega
theorem AB (hf:∀a,(f a).length=esz):∀(l:List α) (i:Nat),(arr f l).drop (i*esz)=arr f (l.drop i)
 | [],i=>by simp[arr]
 | a::l,0=>by simp
 | a::l,i+1=>by
  rw[mH,List.drop_append,show (i+1)*esz=esz+i*esz from by grind,hf,hJ,AB hf l i,List.drop_succ_cons,List.drop_eq_nil_of_le au];rfl
theorem AD (hf:∀a,(f a).length=esz):∀(l:List α) (i:Nat),(arr f l).take (i*esz)=arr f (l.take i)
 | [],i=>by simp[arr]
 | a::l,0=>by simp[arr]
 | a::l,i+1=>by
  rw[mH,List.take_append,show (i+1)*esz=esz+i*esz from by grind,hf,hJ,AD hf l i,List.take_succ_cons,ew au];rfl
theorem lJ (hf:∀a,(f a).length=esz){l:List α}{i n:Nat}(h:i+n<=l.length):cut (arr f l) (i*esz) (n*esz)=some (arr f ((l.drop i).take n)):=by
 simp only[cut,AB hf,AD hf,pP hf]<;>grind
theorem QZ [ia:Inhabited α](hf:∀a,(f a).length=esz){l:List α}{i:Nat}(h:i<l.length):∃r,(arr f l).drop (i*esz)=f l[i]! ++ r:=by
 refine⟨arr f (l.drop (i+1)),?_⟩;grind[AB,gF,mH]
theorem Ra {a r:List AV}{j:Nat}(h:j+n<=a.length)(hn:ag=true\/0<n):partOf (a++r) j n ag=partOf a j n ag:=by
 cases ag with
 | true => 
   simp only[partOf,if_true,cut]<;>grind
 | false=>
  simp only[partOf,bA,if_false]<;>grind
theorem Hf {a:List AV}{j:Nat}:partOf (a.drop j) 0 n ag=partOf a j n ag:=by
 cases ag <;> simp[partOf,cut]
theorem Rb [ia:Inhabited α](hf:∀a,(f a).length=esz){l:List α}{i j n:Nat}{ag:Bool}(h:i<l.length)(hj:j+n<=esz)(hn:0<n):partOf ((arr f l).drop (i*esz)) j n ag=partOf (f l[i]!) j n ag:=by
 obtain⟨r,hr⟩:=QZ hf h;grind[Ra]
theorem Hg (a:α):∀n:Nat,gV (f a) n=arr f (dw n a)
 | 0=>rfl
 | n+1=>by rw[gV,Hg a n,i6,mH]
end
variable {α:Type} {ia:Inhabited α} {f:α->List AV} {esz:Nat}
theorem afo {i:Nat}{c:List α}(hx:(St.mk pe lo hp df).ah x=some (.vp ((arr f c).drop (i*esz))))
 (hf:∀a,(f a).length=esz) (hi:i<c.length) (hn:0<n/\0+n<=esz) (hv:partOf (f c[i]!) 0 n ag=some v) (h:WO M l ⟨⟨pe,(t,v)::lo,hp,df⟩,wr⟩ Q):WO M (⟨.l t,.load n ag x,none⟩::l) ⟨⟨pe,lo,hp,df⟩,wr⟩ Q:=
 acH (v:=v) (h':=hp) (w':=[]) (by simp only[cg,hx,bP,gB,Rb hf hi hn.2 hn.1,hv]) rfl rfl h
theorem afU {c:List AV}(hx:(St.mk pe lo hp df).ah x=some a)(hb:gB hp a=some c)(hv:partOf c 0 n ag=some v)
 (h:WO M l ⟨⟨pe,(t,v)::lo,hp,df⟩,wr⟩ Q):WO M (⟨.l t,.load n ag x,none⟩::l) ⟨⟨pe,lo,hp,df⟩,wr⟩ Q:=
 acH (v:=v) (h':=hp) (w':=[]) (by simp only[cg,hx,bP,hb,hv]) rfl rfl h
theorem WO.Rc {esz0 bytes:Nat}{elem:TypeId}{zero:List AV}{y:aS}{k k':IntKind}{a b:Int}(hx:(St.mk pe lo hp df).ah x=some (.int k a))(hy:(St.mk pe lo hp df).ah y=some (.int k' b))
 (hc:0<=a/\a<=b/\b.toNat*bytes<=fl/\b<=2^46/\zero.length=esz0) (h:WO M l ⟨⟨pe,(t,.sl hp.length 0 a.toNat esz0 (some b.toNat))::lo,hp++[some (.cells (gV zero b.toNat) elem)],df⟩,wr⟩ Q) :
 WO M (⟨.l t,.gS elem esz0 bytes zero x y,none⟩::l) ⟨⟨pe,lo,hp,df⟩,wr⟩ Q:=
 acH (v:=.sl hp.length 0 a.toNat esz0 (some b.toNat)) (h':=hp++[some (.cells (gV zero b.toNat) elem)]) (w':=[]) (by simp only[cg,hx,hy,bP,qY];grind) rfl rfl h
theorem gZ {o:cd}(hb:h.at b=some o):b<h.length:=by
 unfold ae.at at hb;grind
theorem cC {x:Option cd}:ae.at (h++[x]) h.length=x:=by simp[ae.at]
theorem cW {l:ae}{o:cd}(hb:h.at b=some o):ae.at (h++l) b=some o:=by
 have:=gZ hb;simp only[ae.at]at hb ⊢<;>grind
theorem di (hb:b<h.length):ae.at (h.put b o) b=o:=by
 simp[ae.at,ae.put,hb]
theorem AE {a:Nat}{x:cd}(hn:a≠b)(ha:h.at a=some x):ae.at (h.put b o) a=some x:=by
 have:¬b=a:=ac;simp only[ae.at,ae.put,ce,if_neg this]at ha ⊢;exact ha
theorem nT:(h.put b o).length=h.length:=by simp[ae.put]
def bx.ro:bx->Bool
 | .load .. => true
 | op=>!op.bT
def cD.clean (d:cD):Prop:=d.wr=[]/\d.hi=d.lo
theorem AF {T:List Nat}:ae.at (fh T h 0) b=if T.contains b then h.at b else none:=by
 unfold ae.at;grind[nJ]
theorem AG {T:List Nat}:fN [] h (fh T h 0) 0=h:=by
 apply ci;intro b;rw[kc _ _ _ _ _ (by rw[gr];simp)];grind[fW,gr]
def lK:Option AV->List Nat
 | some (.ptr b _)=>[b]
 | some (.sl b _ _ _ _)=>[b]
 | some (.map b)=>[b]
 | _=>[]
theorem Hh {s:St}:lh s (.load n ag x)=some (lK (s.ah x)):=by
 rfl
theorem Hi:gB (fh (lK (some a)) h 0) a=gB h a:=by
 cases a <;> first|rfl|skip
 simp[gB,lK,AF]
theorem uR {call:eC}{inv:fg}{s:St}(ha:s.ah x=some a)(hp':ae):cm call inv { s with hp:=hp' } (.load n ag x)=(gB hp' a).bind fun l=>(partOf l 0 n ag).map fun v=>⟨v,hp',[]⟩:=by
 have hx':St.ah { s with hp:=hp' } x=some a:=by rw[←ha];cases x <;> rfl
 simp only[cm,bx.bT,if_true,cg,hx',bP]<;>grind
theorem uS {call:eC}{inv:fg}:∀(l:List (bj×List Nat)) (s:aw) (ds:List cD),l.all (fun p=>p.1.op.ro)=true->(∀d∈ds,d.clean)->eu call inv l s ds=fz call inv (l.map (·.1)) s
 | [],s,ds,_,_=>rfl
 | (o,un)::l,s,ds,hl,hd=>by
  simp only[kw,aY]at hl;obtain⟨ho,hl⟩:=hl;have hcl:∀t,(∀d∈ds++[(⟨t,[],s.s.hp.length,s.s.hp.length⟩:cD)],d.clean):=fun t d hm=>by
   rcases cP.1 hm with h1|h1
   . grind
   . simp only[gc]at h1;subst h1;exact⟨rfl,rfl⟩
  simp only[eu,List.map_cons,fz];split
  . by_cases hh:o.op.bT=true
    . have hop:∃n ag x,o.op = .load n ag x:=by
       cases hq:o.op <;> rw[hq]at ho hh <;> first|(cases hh;done)|(cases ho;done)|simp
      obtain⟨n,ag,x,hop⟩:=hop;have hU:un.flatMap (fun j=>(ds[j]?).elim [] cD.own)=[]:=by
       rw[List.flatMap_eq_nil_iff];intro j _;cases hj:ds[j]? with
       | none=>rfl
       | some d=>
        obtain⟨c1,c2⟩:=hd d au;simp[cD.own,c1,c2]
      simp only[hop,bx.bT,if_true,Hh,hU];have hdis:∀T,iR T []=true:=fun T=>by simp[iR]
      simp only[hdis,if_true];cases ha:s.s.ah x with
      | none=>
       have e1:∀hp',cm call inv { s.s with hp:=hp' } (.load n ag x)=none:=fun hp'=>by
        have hx':St.ah { s.s with hp:=hp' } x=none:=by rw[←ha];cases x <;> rfl
        simp only[cm,bx.bT,if_true,cg,hx',Option.bind_none]
       simp_all
      | some a=>
       have e2:=uR (call:=call) (inv:=inv) (n:=n) (ag:=ag) ha s.s.hp;rw[uR ha,Hi,show cm call inv s.s (.load n ag x)=_ from e2];cases gB s.s.hp a with
       | none=>rfl
       | some c=>
        simp only[bP];cases partOf c 0 n ag with
        | none=>rfl
        | some v=>
         simp only[bW,fu,f8,ix,c8,if_true,AG,cQ];have:=uS (call:=call) (inv:=inv) l ⟨{ s.s.put o.dst v with hp:=s.s.hp },s.wr⟩ (ds++[⟨some (lK (some a)),[],s.s.hp.length,s.s.hp.length⟩]) hl (hcl _);rw[←this];simp[gr]
    . have hh':o.op.bT=false:=by simpa using hh
      rw[if_neg hh];have e2:cm call inv s.s o.op=(br s.s o.op).map fun v=>⟨v,s.s.hp,[]⟩:=by
       cases hq:o.op <;> rw[hq]at hh' <;> first|(cases hh';done)|simp only[cm,bx.bT,bA,if_false]
      rw[e2];cases br s.s o.op with
      | none=>rfl
      | some v=>
       simp only[bW,cQ];have hput:({ s.s.put o.dst v with hp:=s.s.hp }:St)=s.s.put o.dst v:=by cases o.dst <;> rfl
       rw[hput];exact uS l _ _ hl (hcl _)
  . exact uS l _ _ hl (hcl _)
  . rfl
theorem aeW {l:List (bj×List Nat)}{Q:Ex->aw->Prop}(hl:l.all (fun p=>p.1.op.ro)=true)(h:WO M (l.map (·.1)) ⟨⟨pe,[],hp,df⟩,wr⟩ (Q .normal)):W M (.draw l) ⟨⟨pe,lo,hp,df⟩,wr⟩ Q:=by
 obtain⟨⟨n,s',h1,h2⟩⟩:=h;exact adJ ⟨⟨n,s',by grind[uS],h2⟩⟩
end Go.Ab
namespace Go.Ab
variable {t n:Nat} {x y:aS} {l:List (bj×List Nat)} {pe:List AV} {lo:List (Nat×AV)} {hp:ae} {df wr un T:List Nat} {a b:Int} {Q:aw->Prop} {s:aw} {ds:List cD} {d:fC}
variable {M:az}
theorem afz {l:List bj}(hx:(St.mk pe lo hp df).ah x=some (.int .i64 a))(hy:(St.mk pe lo hp df).ah y=some (.int .i64 b))
 (ha:0<=a/\0<b) (hr:a<9223372036854775808) (h:0<=a/b->a/b<=a->WO M l ⟨⟨pe,(t,.int .i64 (a/b))::lo,hp,df⟩,wr⟩ Q):WO M (⟨.l t,.bin .quo x y,none⟩::l) ⟨⟨pe,lo,hp,df⟩,wr⟩ Q:=by
 refine afv hx hy ha.2 ⟨ac,hr⟩ ?_;rw[Int.tdiv_eq_ediv_of_nonneg ha.1];exact h (Int.ediv_nonneg ha.1 ac) (Int.ediv_le_self _ ha.1)
theorem afB {l:List bj}{k:IntKind}(hx:(St.mk pe lo hp df).ah x=some (.int k a))(hy:(St.mk pe lo hp df).ah y=some (.int k b))
 (ha:0<=a/\0<b) (h:0<=a%b->a%b<b->WO M l ⟨⟨pe,(t,.int k (a%b))::lo,hp,df⟩,wr⟩ Q):WO M (⟨.l t,.bin .rem x y,none⟩::l) ⟨⟨pe,lo,hp,df⟩,wr⟩ Q:=by
 refine afw hx hy ac ?_;rw[Int.tmod_eq_emod_of_nonneg ha.1];exact h (Int.emod_nonneg _ ac) (Int.emod_lt_of_pos _ ha.2)
theorem acq {f:aS}{args:List aS}{l:List bj}{h':ae}{wr':List Nat}{g:FuncId}{fi ca as:List AV}{v:AV}(hf:(St.mk pe lo hp df).ah f=some (.fn (.func g) fi ca))(ha:(St.mk pe lo hp df).cX args=some as)
 (he:M.ext g (fi++as++ca) hp=some ⟨v,h',wr'⟩) (h:WO M l ⟨⟨pe,(t,v)::lo,h',df⟩,wr'++wr⟩ Q):WO M (⟨.l t,.call f args,none⟩::l) ⟨⟨pe,lo,hp,df⟩,wr⟩ Q:=WO.Ay hf ha he h
theorem afL {bytes:Nat}{elem:TypeId}{l:List bj}{k k':IntKind}{z:Int}{kz:IntKind}(hx:(St.mk pe lo hp df).ah x=some (.int k a))(hy:(St.mk pe lo hp df).ah y=some (.int k' b))
 (hc:0<=a/\a<=b/\b.toNat*bytes<=70368744177664/\b<=70368744177664) (h:WO M l ⟨⟨pe,(t,.sl hp.length 0 a.toNat 1 (some b.toNat))::lo,hp++[some (.cells (arr (fun x=>[.int kz x]) (dw b.toNat z)) elem)],df⟩,wr⟩ Q) :
 WO M (⟨.l t,.gS elem 1 bytes [.int kz z] x y,none⟩::l) ⟨⟨pe,lo,hp,df⟩,wr⟩ Q:=by
 refine WO.Rc hx hy ⟨hc.1,hc.2.1,by simp only[fl];omega,ac,rfl⟩ ?_;have e:=Hg (f:=fun x=>[AV.int kz x]) z b.toNat;grind
theorem adY (h:Q s):WD M [] s ds Q:=⟨⟨0,s,rfl,h⟩⟩
def cD.key (d:cD):Option (List Nat)×List Nat:=(d.kC,d.own)
theorem Hj {call:eC}{inv:fg}:∀(l:List (bj×List Nat)) (s:aw) (ds ds':List cD),ds.map cD.key=ds'.map cD.key->eu call inv l s ds=eu call inv l s ds'
 | [],_,_,_,_=>rfl
 | (o,un)::l,s,ds,ds',hk=>by
  have h1:∀j:Nat,(ds[j]?).elim [] cD.own=(ds'[j]?).elim [] cD.own:=fun j=>by
   have:=congrArg (fun x:List (Option (List Nat)×List Nat)=>x[j]?) hk;simp only[c9]at this;cases h3:ds[j]? <;> cases h4:ds'[j]? <;> rw[h3,h4]at this <;> simp[cD.key]at this ⊢<;>grind
  have h2:∀j:Nat,(ds[j]?).map cD.kC=(ds'[j]?).map cD.kC:=fun j=>by
   have:=congrArg (fun x:List (Option (List Nat)×List Nat)=>x[j]?) hk;simp only[c9]at this;cases h3:ds[j]? <;> cases h4:ds'[j]? <;> rw[h3,h4]at this <;> simp[cD.key]at this ⊢<;>grind
  have h7:(fun j:Nat=>(ds[j]?).elim [] cD.own)=(fun j:Nat=>(ds'[j]?).elim [] cD.own):=funext h1;have h8:∀d s,eu call inv l s (ds++[d])=eu call inv l s (ds'++[d]):=fun d s=>Hj l s _ _ (by simp[hk])
  unfold eu;simp only[h7,h8]<;>grind
theorem WD.norm {d d':cD}(hk:d.key=d'.key)(h:WD M l s (ds++[d]) Q):WD M l s (ds++[d']) Q:=by
 obtain⟨⟨n,s',h1,h2⟩⟩:=h;exact⟨⟨n,s',by grind[Hj],h2⟩⟩
theorem WD.Re {o:bj}(hh:o.op.bT=false)(h:WO M [o] s fun s'=>WD M l s' (ds++[⟨some [],[],s.s.hp.length,s.s.hp.length⟩]) Q):WD M ((o,un)::l) s ds Q:=by
 obtain⟨⟨n,s1,h1,⟨⟨m,s',h2,h3⟩⟩⟩⟩:=h;refine⟨⟨max n m,s',?_,h3⟩⟩;have h1':=lI (inv:=M.inv) (je (c7 n m)) _ _ _ h1;have h2':=ke (inv:=M.inv) (je (c6 n m)) _ _ _ _ h2;simp only[fz]at h1';have e2:cm (M.call (max n m)) M.inv s.s o.op=(br s.s o.op).map fun v=>⟨v,s.s.hp,[]⟩:=by
  cases hq:o.op <;> rw[hq]at hh <;> first|(cases hh;done)|simp only[cm,bx.bT,bA,if_false]
 rw[e2]at h1';cases hw:fa s.s o.guard with
 | none=>grind
 | some t=>
  rw[hw]at h1';cases t with
  | true=>
   simp only[eu,hw,hh,bA,if_false];cases hp:br s.s o.op with
   | none=>grind
   | some v=>
    rw[hp]at h1';simp only[bW,cQ,bI.injEq]at h1';have hput:({ s.s.put o.dst v with hp:=s.s.hp }:St)=s.s.put o.dst v:=by cases o.dst <;> rfl
    grind
  | false=>
   simp only[bI.injEq]at h1';simp only[eu,hw]<;>grind
theorem Rf {h:ae}{b:Nat}{o:Option cd}:fN [b] h (ae.put (fh T h 0) b o) 0=ae.put h b o:=by
 apply ci;intro c;rw[kc _ _ _ _ _ (by simp[ae.put,gr])];simp only[ae.put,ce,gr,nJ]<;>grind
theorem WD.Rg {ag:Bool}{a:AV}(ha:s.s.ah x=some a)(hT:lK (some a)=T)(hd:iR T (un.flatMap fun j=>(ds[j]?).elim [] cD.own)=true)
 (h:WO M [⟨d,.load n ag x,none⟩] s fun s'=>WD M l s' (ds++[⟨some T,[],s.s.hp.length,s.s.hp.length⟩]) Q):WD M ((⟨d,.load n ag x,none⟩,un)::l) s ds Q:=by
 obtain⟨⟨k,s1,h1,⟨⟨m,s',h2,h3⟩⟩⟩⟩:=h;refine⟨⟨max k m,s',?_,h3⟩⟩;have h1':=lI (inv:=M.inv) (je (c7 k m)) _ _ _ h1;have h2':=ke (inv:=M.inv) (je (c6 k m)) _ _ _ _ h2;simp only[fz,fa]at h1';subst hT;simp only[eu,fa,bx.bT,if_true,Hh,ha,hd];rw[uR ha,Hi];rw[show cm (M.call (max k m)) M.inv s.s (.load n ag x)=_ from uR ha s.s.hp]at h1';cases hr:gB s.s.hp a with
 | none=>grind
 | some c=>
  rw[hr]at h1';simp only[bP]at h1' ⊢;cases hp:partOf c 0 n ag with
  | none=>grind
  | some v=>
   rw[hp]at h1';simp only[bW,cQ,bI.injEq]at h1';simp only[bW,fu,f8,ix,c8,if_true,AG,cQ,gr]<;>grind
theorem WD.Rh {b off:Nat}(ha:s.s.ah x=some (.ptr b off))(hd:iR [b] (un.flatMap fun j=>(ds[j]?).elim [] cD.own)=true)
 (hu:un.all (fun j=>match ds[j]? with|some d=>(match d.kC with|some T=>iR [b] T|none=>false)|none=>false)=true)
 (h:WO M [⟨.no,.store n x y,none⟩] s fun s'=>WD M l s' (ds++[⟨some [b],[b],s.s.hp.length,s.s.hp.length⟩]) Q):WD M ((⟨.no,.store n x y,none⟩,un)::l) s ds Q:=by
 obtain⟨⟨k,s1,h1,⟨⟨m,s',h2,h3⟩⟩⟩⟩:=h;refine⟨⟨max k m,s',?_,h3⟩⟩;have h1':=lI (inv:=M.inv) (je (c7 k m)) _ _ _ h1;have h2':=ke (inv:=M.inv) (je (c6 k m)) _ _ _ _ h2;simp only[fz,fa,cm,bx.bT,if_true,cg,ha]at h1';have hx':∀hp',St.ah { s.s with hp:=hp' } x=some (.ptr b off):=fun hp'=>by rw[←ha];rfl
 have hy':∀hp',St.ah { s.s with hp:=hp' } y=s.s.ah y:=fun hp'=>by rfl
 have hk:ae.at (fh [b] s.s.hp 0) b=s.s.hp.at b:=by simp[AF]
 simp only[eu,fa,bx.bT,if_true,lh,ha,hd,cm,cg,hx',hy'];cases hy:s.s.ah y with
 | none=>grind
 | some yv=>
  rw[hy]at h1';simp only[bP]at h1' ⊢;cases hc:yv.cells with
  | none=>grind
  | some new=>
   rw[hc]at h1';simp only at h1' ⊢;cases hb:s.s.hp.at b with
   | none=>grind
   | some o=>
    rw[hb]at h1';cases o with
    | cells c e=>
     simp only at h1' ⊢;by_cases hcond:new.length=n/\off+n<=c.length/\new.all db=true
     . simp only[if_pos hcond,bI.injEq]at h1';simp only[if_pos hcond,kw,fu,c8,List.isEmpty_cons,Bool.false_or,hk,hb,Option.isSome_some,Rf,nT,gr]<;>grind
     grind
    | map _=>cases h1'
    | iter _ _=>cases h1'
    | gI=>cases h1'
    | hole=>cases h1'
    | loop _ _ _ _ _ _=>cases h1'
theorem WD.Hk {f:aS}{args:List aS}{g:FuncId}{fi ca as:List AV}{v:AV}{hn:ae}(hf:s.s.ah f=some (.fn (.func g) fi ca))(ha:s.s.cX args=some as)
 (hU:(un.flatMap fun j=>(ds[j]?).elim [] cD.own)=[]) (he:M.ext g (fi++as++ca) s.s.hp=some ⟨v,s.s.hp++hn,[]⟩)
 (h:WD M l ⟨{ s.s.put d v with hp:=s.s.hp++hn },s.wr⟩ (ds++[⟨none,[],s.s.hp.length,s.s.hp.length+hn.length⟩]) Q):WD M ((⟨d,.call f args,none⟩,un)::l) s ds Q:=by
 obtain⟨⟨m,s',h2,h3⟩⟩:=h;refine⟨⟨m,s',?_,h3⟩⟩;have hm:mask s.s.hp []=s.s.hp:=rfl;have hcall:cm (M.call m) M.inv { s.s with hp:=s.s.hp } (.call f args)=some ⟨v,s.s.hp++hn,[]⟩:=by
  simp only[cm,hf,ha,iE,he]
 have hmerge:fN [] s.s.hp (s.s.hp++hn) 0=s.s.hp++hn:=by
  apply ci;intro c;rw[kc _ _ _ _ _ am];split
  . grind
  . rfl
 simp only[eu,fa,bx.bT,if_true,lh,hU,hm]<;>grind
theorem rH {t:Option (List Nat)}{w:List Nat}:cD.key ⟨t,w,n,n⟩=cD.key ⟨t,w,0,0⟩:=by simp[cD.key,cD.own]
theorem aez {o:bj}(hh:o.op.bT=false)(h:WO M [o] s fun s'=>WD M l s' (ds++[⟨some [],[],0,0⟩]) Q):WD M ((o,un)::l) s ds Q:=
 WD.Re hh (h.mono fun _ h=>h.norm rH.symm)
theorem aeu {ag:Bool}{a:AV}(ha:s.s.ah x=some a)(hT:lK (some a)=T)(hd:iR T (un.flatMap fun j=>(ds[j]?).elim [] cD.own)=true)
 (h:WO M [⟨d,.load n ag x,none⟩] s fun s'=>WD M l s' (ds++[⟨some T,[],0,0⟩]) Q):WD M ((⟨d,.load n ag x,none⟩,un)::l) s ds Q:=
 WD.Rg ha hT hd (h.mono fun _ h=>h.norm rH.symm)
theorem aeV {b off:Nat}(ha:s.s.ah x=some (.ptr b off))(hd:iR [b] (un.flatMap fun j=>(ds[j]?).elim [] cD.own)=true)
 (hu:un.all (fun j=>match ds[j]? with|some d=>(match d.kC with|some T=>iR [b] T|none=>false)|none=>false)=true)
 (h:WO M [⟨.no,.store n x y,none⟩] s fun s'=>WD M l s' (ds++[⟨some [b],[b],0,0⟩]) Q):WD M ((⟨.no,.store n x y,none⟩,un)::l) s ds Q:=
 WD.Rh ha hd hu (h.mono fun _ h=>h.norm rH.symm)
end Go.Ab
namespace Go.Ab
variable {t b:Nat} {op:bx} {x f i:aS} {want ok:Bool} {l:List (bj×List Nat)} {pe fi ca as:List AV} {lo:List (Nat×AV)} {hp h:ae} {df wr un:List Nat} {Q:aw->Prop} {args:List aS} {g:FuncId} {kt:iD} {zero v:AV} {d:fC} {s:aw} {ds:List cD}
variable {M:az}
theorem afs {l:List bj}(hx:(St.mk pe lo hp df).ah x=some (.ay []))(h:WO M l ⟨⟨pe,(t,cV)::lo,hp,df⟩,wr⟩ Q):WO M (⟨.l t,op,some (x,want)⟩::l) ⟨⟨pe,lo,hp,df⟩,wr⟩ Q:=WO.QU hx h
theorem afe {l:List bj}{h':ae}{wr':List Nat}{b:Bool}(hf:(St.mk pe lo hp df).ah f=some (.fn (.func g) fi ca))(ha:(St.mk pe lo hp df).cX args=some as)
 (he:M.ext g (fi++as++ca) hp=some ⟨.bool b,h',wr'⟩) (h1:b=true->WO M l ⟨⟨pe,(t,.bool true)::lo,h',df⟩,wr'++wr⟩ Q) (h2:b=false->WO M l ⟨⟨pe,(t,.bool false)::lo,h',df⟩,wr'++wr⟩ Q):WO M (⟨.l t,.call f args,none⟩::l) ⟨⟨pe,lo,hp,df⟩,wr⟩ Q:=by
 cases b with
 | true=>exact WO.Ay hf ha he (h1 rfl)
 | false=>exact WO.Ay hf ha he (h2 rfl)
theorem afZ {l:List bj}{a:Int}(hx:(St.mk pe lo hp df).ah x=some (.int .i64 a))
 (hr : -9223372036854775808<a/\a<=9223372036854775808) (h:WO M l ⟨⟨pe,(t,.int .i64 (-a))::lo,hp,df⟩,wr⟩ Q):WO M (⟨.l t,.un .neg x,none⟩::l) ⟨⟨pe,lo,hp,df⟩,wr⟩ Q:=
 WO.op (WP.pure (v:=.int .i64 (-a)) rfl (by
  have:IntKind.i64.wrap (0-a) = -a:=by rw[show 0-a = -a from by omega];exact nP ac
  simp[br,hx,tP]at this ⊢;exact this) h)
theorem ags {y:aS}{l:List bj}{k k' r r':List UInt8}{v v':Int}(hx:(St.mk pe lo hp df).ah x=some (.agg [.str k,.int .i64 v,.str r]))(hy:(St.mk pe lo hp df).ah y=some (.agg [.str k',.int .i64 v',.str r']))
 (h1:(k=k'/\v=v'/\r=r')->WO M l ⟨⟨pe,(t,.bool true)::lo,hp,df⟩,wr⟩ Q) (h2:¬(k=k'/\v=v'/\r=r')->WO M l ⟨⟨pe,(t,.bool false)::lo,hp,df⟩,wr⟩ Q) :
 WO M (⟨.l t,.eq false (.nu [(0,1,false,.str),(1,1,false,.int),(2,1,false,.str)]) x y,none⟩::l) ⟨⟨pe,lo,hp,df⟩,wr⟩ Q:=by
 have e:eL 100 (.nu [(0,1,false,.str),(1,1,false,.int),(2,1,false,.str)]) (.agg [.str k,.int .i64 v,.str r]) (.agg [.str k',.int .i64 v',.str r'])=some (k == k' && (v == v' && r == r')):=by
  cases a:(k == k') <;> cases b:(v == v') <;> cases c:(r == r') <;> simp only[eL,goEq,partOf,List.getElem?_cons_zero,d9,bA,if_false,if_true,a,b,c] <;> rfl
 refine WO.op (WP.pure (v:=.bool (k == k' && (v == v' && r == r'))) rfl (by simp only[br,hx,hy,e,bA,if_false]) ?_);by_cases h:k=k'/\v=v'/\r=r'
 . rw[show (k == k' && (v == v' && r == r'))=true from by grind];exact h1 h
 . rw[show (k == k' && (v == v' && r == r'))=false from by grind];exact h2 h
theorem afE {l:List bj}{kv:AV}{es:List (AV×AV)}(hx:(St.mk pe lo hp df).ah x=some (.map b))(hi:(St.mk pe lo hp df).ah i=some kv)
 (hk:kt.ok kv=true) (hb:hp.at b=some (.map es)) (hf:jc kv es 0=some none) (h:WO M l ⟨⟨pe,(t,if ok then .ay [zero,.bool false] else zero)::lo,hp,df⟩,wr⟩ Q):WO M (⟨.l t,.lookup kt zero x i ok,none⟩::l) ⟨⟨pe,lo,hp,df⟩,wr⟩ Q:=
 acH (v:=if ok then .ay [zero,.bool false] else zero) (h':=hp) (w':=[]) (by simp only[cg,hx,hi,hk,hb,hf,if_true,Option.isSome_none]) rfl rfl h
theorem WD.AH (hf:s.s.ah f=some (.fn (.func g) fi ca))(ha:s.s.cX args=some as)
 (hU:(un.flatMap fun j=>(ds[j]?).elim [] cD.own)=[]) (he:M.ext g (fi++as++ca) s.s.hp=some ⟨v,s.s.hp,[]⟩)
 (h:WD M l ⟨s.s.put d v,s.wr⟩ (ds++[⟨none,[],0,0⟩]) Q):WD M ((⟨d,.call f args,none⟩,un)::l) s ds Q:=by
 have hp:({ s.s.put d v with hp:=s.s.hp++[] }:St)=s.s.put d v:=by cases d <;> simp[St.put]
 refine WD.Hk (hn:=[]) hf ha hU (by simpa using he) ?_;rw[hp];exact h.norm (by simp[cD.key,cD.own])
theorem adA (hf:(St.mk pe lo hp df).ah f=some (.fn (.func g) fi ca))(ha:(St.mk pe lo hp df).cX args=some as)
 (hU:(un.flatMap fun j=>(ds[j]?).elim [] cD.own)=[]) (he:M.ext g (fi++as++ca) hp=some ⟨v,hp,[]⟩)
 (h:WD M l ⟨⟨pe,(t,v)::lo,hp,df⟩,wr⟩ (ds++[⟨none,[],0,0⟩]) Q):WD M ((⟨.l t,.call f args,none⟩,un)::l) ⟨⟨pe,lo,hp,df⟩,wr⟩ ds Q:=WD.AH hf ha hU he h
theorem afi {hn:ae}(hf:(St.mk pe lo hp df).ah f=some (.fn (.func g) fi ca))(ha:(St.mk pe lo hp df).cX args=some as)
 (hU:(un.flatMap fun j=>(ds[j]?).elim [] cD.own)=[]) (he:M.ext g (fi++as++ca) hp=some ⟨v,hp++hn,[]⟩)
 (h:WD M l ⟨⟨pe,(t,v)::lo,hp++hn,df⟩,wr⟩ (ds++[⟨none,[],hp.length,hp.length+hn.length⟩]) Q):WD M ((⟨.l t,.call f args,none⟩,un)::l) ⟨⟨pe,lo,hp,df⟩,wr⟩ ds Q:=WD.Hk hf ha hU he h
theorem afj {b:Bool}(hf:(St.mk pe lo hp df).ah f=some (.fn (.func g) fi ca))(ha:(St.mk pe lo hp df).cX args=some as)
 (hU:(un.flatMap fun j=>(ds[j]?).elim [] cD.own)=[]) (he:M.ext g (fi++as++ca) hp=some ⟨.bool b,hp,[]⟩)
 (h1:b=true->WD M l ⟨⟨pe,(t,.bool true)::lo,hp,df⟩,wr⟩ (ds++[⟨none,[],0,0⟩]) Q) (h2:b=false->WD M l ⟨⟨pe,(t,.bool false)::lo,hp,df⟩,wr⟩ (ds++[⟨none,[],0,0⟩]) Q):WD M ((⟨.l t,.call f args,none⟩,un)::l) ⟨⟨pe,lo,hp,df⟩,wr⟩ ds Q:=by
 cases b with
 | true=>exact WD.AH hf ha hU he (h1 rfl)
 | false=>exact WD.AH hf ha hU he (h2 rfl)
theorem WD.take {t:Bool}(hx:s.s.ah x=some (.bool t))(ht:(t == want)=true)(h:WD M ((⟨d,op,none⟩,un)::l) s ds Q):WD M ((⟨d,op,some (x,want)⟩,un)::l) s ds Q:=by
 obtain⟨⟨n,s',h1,h2⟩⟩:=h;refine⟨⟨n,s',?_,h2⟩⟩;simp only[eu,fa,hx,ht]at h1 ⊢;exact h1
theorem WD.skip (hx:s.s.ah x=some v)(ht:v = .bool !want\/v = .ay [])(h:WD M l ⟨s.s.put d cV,s.wr⟩ (ds++[⟨some [],[],0,0⟩]) Q):WD M ((⟨d,op,some (x,want)⟩,un)::l) s ds Q:=by
 obtain⟨⟨n,s',h1,h2⟩⟩:=h.norm (d':=⟨some [],[],s.s.hp.length,s.s.hp.length⟩) rH.symm;refine⟨⟨n,s',?_,h2⟩⟩;have hw:fa s.s (some (x,want))=some false:=by
  rcases ht with rfl|rfl
  . simp only[fa,hx];simp
  . simp only[fa,hx]
 simp only[eu,hw];exact h1
theorem aff (hx:s.s.ah x=some (.bool false))(h:WD M ((⟨d,op,none⟩,un)::l) s ds Q):WD M ((⟨d,op,some (x,false)⟩,un)::l) s ds Q:=WD.take hx rfl h
theorem afg (hx:(St.mk pe lo hp df).ah x=some (.bool true))(h:WD M l ⟨⟨pe,(t,cV)::lo,hp,df⟩,wr⟩ (ds++[⟨some [],[],0,0⟩]) Q):WD M ((⟨.l t,op,some (x,false)⟩,un)::l) ⟨⟨pe,lo,hp,df⟩,wr⟩ ds Q:=WD.skip hx (.inl rfl) h
theorem Ri {call:eC}{inv:fg}{s:St}(ha:s.ah x=some (.map b))(hp':ae)(he:hp'.at b=s.hp.at b) :
 cm call inv { s with hp:=hp' } (.lookup kt zero x i ok)=(cm call inv s (.lookup kt zero x i ok)).map fun r=>⟨r.v,hp',[]⟩:=by
 have hx':St.ah { s with hp:=hp' } x=some (.map b):=by rw[←ha];cases x <;> rfl
 have hi':St.ah { s with hp:=hp' } i=s.ah i:=by cases i <;> rfl
 simp only[cm,bx.bT,if_true,cg,hx',hi',ha];cases s.ah i with
 | none=>rfl
 | some k=>
  simp only;by_cases hk:kt.ok k=true
  . simp only[hk,if_true]<;>grind
  grind
theorem afx (ha:s.s.ah x=some (.map b))(hd:iR [b] (un.flatMap fun j=>(ds[j]?).elim [] cD.own)=true)
 (h:WO M [⟨d,.lookup kt zero x i ok,none⟩] s fun s'=>WD M l s' (ds++[⟨some [b],[],0,0⟩]) Q):WD M ((⟨d,.lookup kt zero x i ok,none⟩,un)::l) s ds Q:=by
 obtain⟨⟨k,s1,h1,h2⟩⟩:=h;obtain⟨⟨m,s',h2,h3⟩⟩:=h2.norm (d':=⟨some [b],[],s.s.hp.length,s.s.hp.length⟩) rH.symm;refine⟨⟨max k m,s',?_,h3⟩⟩;have h1':=lI (inv:=M.inv) (je (c7 k m)) _ _ _ h1;have h2':=ke (inv:=M.inv) (je (c6 k m)) _ _ _ _ h2;simp only[fz,fa]at h1';have hk:ae.at (fh [b] s.s.hp 0) b=s.s.hp.at b:=by simp[AF]
 simp only[eu,fa,bx.bT,if_true,lh,ha,hd];rw[Ri ha _ hk];cases hq:cm (M.call (max k m)) M.inv s.s (.lookup kt zero x i ok) with
 | none=>grind
 | some r=>
  rw[hq]at h1';simp only[bI.injEq]at h1';have hr:r.h=s.s.hp/\r.wr=[]:=by
   simp only[cm,bx.bT,if_true,cg,ha]at hq;repeat' (first|(cases hq;done)|split at hq)
   all_goals first|(cases hq;exact⟨rfl,rfl⟩)
  simp only[bW,fu,f8,ix,c8,if_true,AG,cQ,gr]<;>grind
def bx.Hm:bx->Bool
 | .alloc .. | .box .. | .eo .. | .gS .. | .jV=>true
 | _=>false
theorem AI {s:St}{hp':ae}(x:aS):St.ah { s with hp:=hp' } x=s.ah x:=by rfl
theorem Hn {s:St}{hp':ae}:∀(ps:List (Nat×Nat×aS)),St.parts { s with hp:=hp' } ps=s.parts ps
 | []=>rfl
 | (o,n,x)::r=>by simp only[St.parts,AI,Hn r]
theorem Rj {call:eC}{inv:fg}{s:St}(hn:op.Hm=true){r:HR}(hq:cm call inv s op=some r):∃o,r.h=s.hp++[o]/\r.wr=[]/\∀hp':ae,hp'.length=s.hp.length->cm call inv { s with hp:=hp' } op=some ⟨r.v,hp'++[o],[]⟩:=by
 cases op <;> first|(cases hn;done)|skip
 case alloc e z=>
  simp only[cm,bx.bT,if_true,cg]at hq;cases hq;exact⟨_,rfl,rfl,fun hp' hl=>by simp only[cm,bx.bT,if_true,cg,hl]⟩
 case box e n x=>
  simp only[cm,bx.bT,if_true,cg]at hq;split at hq
  . rename_i c hc;split at hq
    . rename_i hlen;cases hq;exact⟨_,rfl,rfl,fun hp' hl=>by simp only[cm,bx.bT,if_true,cg,AI,hc,hl,if_pos hlen]⟩
    grind
  grind
 case eo e len esz z ps=>
  simp only[cm,bx.bT,if_true,cg]at hq;split at hq
  . rename_i vs hvs;split at hq
    . rename_i c hc;split at hq
      . rename_i hlen;cases hq;exact⟨_,rfl,rfl,fun hp' hl=>by simp only[cm,bx.bT,if_true,cg,Hn,hvs,hc,hl,if_pos hlen]⟩
      grind
    grind
  grind
 case jV=>
  simp only[cm,bx.bT,if_true,cg]at hq;cases hq;exact⟨_,rfl,rfl,fun hp' hl=>by simp only[cm,bx.bT,if_true,cg,hl]⟩
 case gS e esz by' z a b=>
  simp only[cm,bx.bT,if_true,cg]at hq;split at hq
  . rename_i x y hx hy;split at hq
    . rename_i hc;cases hq;exact⟨_,rfl,rfl,fun hp' hl=>by simp only[cm,bx.bT,if_true,cg,AI,hx,hy,hl,if_pos hc]⟩
    grind
  grind
theorem afd (hn:op.Hm=true)(h:WO M [⟨d,op,none⟩] s fun s'=>WD M l s' (ds++[⟨some [],[],s.s.hp.length,s.s.hp.length+1⟩]) Q):WD M ((⟨d,op,none⟩,un)::l) s ds Q:=by
 obtain⟨⟨k,s1,h1,⟨⟨m,s',h2,h3⟩⟩⟩⟩:=h;refine⟨⟨max k m,s',?_,h3⟩⟩;have h1':=lI (inv:=M.inv) (je (c7 k m)) _ _ _ h1;have h2':=ke (inv:=M.inv) (je (c6 k m)) _ _ _ _ h2;simp only[fz,fa]at h1';have ht:lh s.s op=some []:=by cases op <;> first|(cases hn;done)|rfl
 have hh:op.bT=true:=by cases op <;> first|(cases hn;done)|rfl
 have hd:∀U,iR [] U=true:=fun U=>rfl
 cases hq:cm (M.call (max k m)) M.inv s.s op with
 | none=>grind
 | some r=>
  rw[hq]at h1';obtain⟨o,e1,e2,e3⟩:=Rj hn hq;simp only[bI.injEq]at h1';simp only[eu,fa,hh,if_true,ht,hd,e3 (fh [] s.s.hp 0) (gr _ _ _)];have hm:fN [] s.s.hp (fh [] s.s.hp 0++[o]) 0=s.s.hp++[o]:=by
   apply ci;intro c;rw[kc _ _ _ _ _ (by simp[gr])];split
   . grind
   . grind[dK,gr,gr]
  simp only[fu,f8,ix,c8,if_true,hm,cQ,cn,List.length_singleton,gr]<;>grind
def rI (h:ae):AV->Option (List AV×Nat)
 | .str _=>none
 | .sl b off n esz _=>match h.at b with
   | some (.cells l _)=>(cut l off (n*esz)).map (·,n)
   | _=>none
 | v=>gJ h v
def uT:List AV->Option (List Int)
 | []=>some []
 | .int .i64 n::r=>match uT r with
   | some l=>some (n::l)
   | none=>none
 | _=>none
def nU:List AV->Option (List (List UInt8))
 | []=>some []
 | .str n::r=>match nU r with
   | some l=>some (n::l)
   | none=>none
 | _=>none
def strs (l:List (List UInt8)):List AV:=arr (fun x=>[.str x]) l
theorem Ho:∀{c:List AV} {l:List Int},uT c=some l->c=ints l
 | [],l,h=>by cases h;rfl
 | v::r,l,h=>by
  unfold uT at h;split at h
  . grind
  . rename_i n r' e;cases e;split at h
    . rename_i l' hl;cases h;rw[Ho hl];rfl
    . cases h
  . cases h
theorem Hp:∀{c:List AV} {l:List (List UInt8)},nU c=some l->c=strs l
 | [],l,h=>by cases h;rfl
 | v::r,l,h=>by
  unfold nU at h;split at h
  . grind
  . rename_i n r' e;cases e;split at h
    . rename_i l' hl;cases h;rw[Hp hl];rfl
    . cases h
  . cases h
theorem Hq:∀l:List (List UInt8),nU (strs l)=some l
 | []=>rfl
 | n::l=>by
  have:=Hq l;show nU (.str n::strs l)=_;rw[nU,this]
def gO (h:ae)(v:AV):Option (List Int):=match rI h v with
 | some (c,n)=>match uT c with
   | some l=>if l.length=n then some l else none
   | none=>none
 | none=>none
def pR (h:ae)(v:AV):Option (List (List UInt8)):=match rI h v with
 | some (c,n)=>match nU c with
   | some l=>if l.length=n then some l else none
   | none=>none
 | none=>none
theorem Hr {α:Type}{f:α->List AV}{l:List α}(hc:rI h v=some (arr f l,l.length)):Sl f h v l:=by
 cases v <;> simp only[rI,gJ]at hc <;> try (cases hc;done)
 case ab=>
  simp only[bI.injEq,ii.injEq]at hc;exact .inl ⟨rfl,List.eq_nil_of_length_eq_zero hc.2.symm⟩
 case sl b off len esz cap=>
  split at hc
  . rename_i c e hb;simp only[be,ii.injEq]at hc;obtain⟨c',h1,h2,h3⟩:=hc;subst h3;subst h2;exact .inr (.inr ⟨b,off,esz,cap,c,e,rfl,hb,h1⟩)
  grind
 case vs c len cap=>
  simp only[bI.injEq,ii.injEq]at hc;obtain⟨rfl,rfl⟩:=hc;exact .inr (.inl ⟨cap,rfl⟩)
theorem Rk {l:List Int}(hi:gO h v=some l):Sl (fun x=>[.int .i64 x]) h v l:=by
 unfold gO at hi;split at hi
 . rename_i c n hc;split at hi
   . rename_i l' hl;split at hi
     . rename_i hn;cases hi;subst hn;rw[Ho hl]at hc;exact Hr hc
     grind
   grind
 grind
theorem Hs {l:List (List UInt8)}(hi:pR h v=some l):Sl (fun x=>[.str x]) h v l:=by
 unfold pR at hi;split at hi
 . rename_i c n hc;split at hi
   . rename_i l' hl;split at hi
     . rename_i hn;cases hi;subst hn;rw[Hp hl]at hc;exact Hr hc
     grind
   grind
 grind
end Go.Ab
namespace Go.Ab
variable {ars pe:List AV} {h hp:ae} {r:HR} {f:aS} {args:List aS} {l:List bj} {Q:aw->Prop} {g v:AV} {t:Nat} {lo:List (Nat×AV)} {df wr:List Nat}
variable {M:az}
def CT (M:az)(g:AV)(ars:List AV)(h:ae)(r:HR):Prop:=∃n,M.call n g ars h=some r
theorem CT.run {f:FuncId}{fi ca:List AV}(he:M.ext f (fi++ars++ca) h=none)(hr:bg M f (fi++ars++ca) h r):CT M (.fn (.func f) fi ca) ars h r:=by
 obtain⟨n,hn⟩:=hr;exact⟨n,by simp only[iE,he];exact hn⟩
theorem WO.AJ {d:fC}{s:aw}(hf:s.s.ah f=some g)(ha:s.s.cX args=some ars)(hc:CT M g ars s.s.hp r)
 (h:WO M l ⟨{ s.s.put d r.v with hp:=r.h },r.wr++s.wr⟩ Q):WO M (⟨d,.call f args,none⟩::l) s Q:=
 WO.op (WP.call hf ha (by obtain⟨n,hn⟩:=hc;exact⟨⟨n,r,hn,h⟩⟩))
theorem afp {h':ae}{wr':List Nat}(hf:(St.mk pe lo hp df).ah f=some g)(ha:(St.mk pe lo hp df).cX args=some ars)
 (hc:CT M g ars hp ⟨v,h',wr'⟩) (h:WO M l ⟨⟨pe,(t,v)::lo,h',df⟩,wr'++wr⟩ Q):WO M (⟨.l t,.call f args,none⟩::l) ⟨⟨pe,lo,hp,df⟩,wr⟩ Q:=WO.AJ hf ha hc h
theorem WD.AJ {d:fC}{un:List Nat}{l:List (bj×List Nat)}{s:aw}{ds:List cD}(hf:s.s.ah f=some g)(ha:s.s.cX args=some ars)
 (hU:(un.flatMap fun j=>(ds[j]?).elim [] cD.own)=[]) (he:CT M g ars s.s.hp ⟨v,s.s.hp,[]⟩)
 (h:WD M l ⟨s.s.put d v,s.wr⟩ (ds++[⟨none,[],0,0⟩]) Q):WD M ((⟨d,.call f args,none⟩,un)::l) s ds Q:=by
 obtain⟨⟨m,s',h2,h3⟩⟩:=h.norm (d':=⟨none,[],s.s.hp.length,s.s.hp.length⟩) (by simp[cD.key,cD.own]);obtain⟨n,hn⟩:=he;refine⟨⟨max n m,s',?_,h3⟩⟩;have h2':=ke (inv:=M.inv) (je (c6 n m)) _ _ _ _ h2;have hn':=je (M:=M) (c7 n m) _ _ _ _ hn;have hm:mask s.s.hp []=s.s.hp:=rfl;have hcall:cm (M.call (max n m)) M.inv { s.s with hp:=s.s.hp } (.call f args)=some ⟨v,s.s.hp,[]⟩:=by
  simp only[cm,hf,ha];exact hn'
 have hmerge:fN [] s.s.hp s.s.hp 0=s.s.hp:=by
  apply ci;intro c;rw[kc _ _ _ _ _ (b9 _)];split
  . rfl
  . rfl
 simp only[eu,fa,bx.bT,if_true,lh,hU,hm];rw[hcall];have hp:({ s.s.put d v with hp:=s.s.hp }:St)=s.s.put d v:=by cases d <;> rfl
 grind
theorem agt {un:List Nat}{l:List (bj×List Nat)}{ds:List cD}(hf:(St.mk pe lo hp df).ah f=some g)(ha:(St.mk pe lo hp df).cX args=some ars)
 (hU:(un.flatMap fun j=>(ds[j]?).elim [] cD.own)=[]) (he:CT M g ars hp ⟨v,hp,[]⟩)
 (h:WD M l ⟨⟨pe,(t,v)::lo,hp,df⟩,wr⟩ (ds++[⟨none,[],0,0⟩]) Q):WD M ((⟨.l t,.call f args,none⟩,un)::l) ⟨⟨pe,lo,hp,df⟩,wr⟩ ds Q:=WD.AJ hf ha hU he h
theorem Ht {f N:Nat}{aV:List Nat}{res:List fK}{body:ao}(hft:M.FT f=some ⟨N,aV,res,body⟩)(hN:ars.length<=N)
 (hW:W M body ⟨⟨aV.map (fun t=>(ars[t]?).getD cV),[],h,[]⟩,[]⟩ fun e s=>(e = .normal\/e = .ret)/\s.s.cF=[]/\∃vs,dU s.s res=some vs/\gm (aT vs) h.length s=r):bg M f ars h r:=by
 obtain⟨⟨n,e,s,h1,h2,h3,vs,h4,h5⟩⟩:=hW;refine⟨n,?_⟩;have h1':bC M.ext M.inv M.FT n body ⟨⟨aV.map (fun t=>(ars[t]?).getD cV),[],h,[]⟩,[]⟩=some (e,s):=h1;simp only[gW,hft];rw[if_neg ac];simp only[az.ev,h1',if_pos h2,h3,lj,h4,h5]
def uU (b:Nat)(wr:List Nat):Prop:=∀x∈wr,x=b
theorem uU.cons {b:Nat}(h:uU b wr):uU b (b::wr):=fun x hx=>by
 rcases b6.1 hx with e|e
 . exact e
 . exact h x e
theorem Hu {b:Nat}{x y:Option cd}:(h.put b x).put b y=h.put b y:=by simp[ae.put]
theorem agc {x:aS}{k:IntKind}{a:Int}(hx:(St.mk pe lo hp df).ah x=some (.int k a))(hr:0<=a/\a<18446744073709551616)
 (h:WO M l ⟨⟨pe,(t,.int .u64 a)::lo,hp,df⟩,wr⟩ Q):WO M (⟨.l t,.im .u64 x,none⟩::l) ⟨⟨pe,lo,hp,df⟩,wr⟩ Q:=
 WO.op (WP.pure (v:=.int .u64 a) rfl (by
  have:IntKind.u64.wrap a=a:=by simp only[IntKind.wrap,IntKind.bits,IntKind.signed];simp;omega
  simp only[br,hx,bP,pn,this]) h)
theorem afP {x:aS}{k:IntKind}{a:Int}(hx:(St.mk pe lo hp df).ah x=some (.int k a))(hr : -9223372036854775808<=a/\a<9223372036854775808)
 (h:WO M l ⟨⟨pe,(t,.int .i64 a)::lo,hp,df⟩,wr⟩ Q):WO M (⟨.l t,.im .i64 x,none⟩::l) ⟨⟨pe,lo,hp,df⟩,wr⟩ Q:=
 WO.op (WP.pure (v:=.int .i64 a) rfl (by simp only[br,hx,bP,pn,nP hr]) h)
end Go.Ab
namespace Go.Ab
variable {h:ae}
variable {M:az}
theorem Rl {v:AV}{s:aw}(hh:s.s.hp=h)(hw:s.wr=[]):gm v h.length s=⟨v,h,[]⟩:=by
 have hk:h.take h.length=h:=List.take_length;simp only[gm,hh,hw,tight,fu,c8,List.filter_nil,hk];simp
theorem pS {g N:Nat}{aV:List Nat}{res:List fK}{body:ao}{ars:List AV}{v:AV}(hft:M.FT g=some ⟨N,aV,res,body⟩)(hN:ars.length<=N)
 (hW:W M body ⟨⟨aV.map (fun t=>(ars[t]?).getD cV),[],h,[]⟩,[]⟩ fun x s=>(x = .normal\/x = .ret)/\s.s.cF=[]/\s.s.hp=h/\s.wr=[]/\∃vs,dU s.s res=some vs/\aT vs=v):bg M g ars h ⟨v,h,[]⟩:=by
 refine Ht hft hN (hW.mono fun x s ⟨h1,h2,h3,h4,vs,h5,h6⟩=>⟨h1,h2,vs,h5,?_⟩);grind[Rl]
theorem Hv {b:Nat}{o:cd}(hb:h.at b=some o):h.put b (some o)=h:=by
 have hl:=gZ hb;apply ci;intro i;simp only[ae.put,ce];split
 . rename_i e;subst e;unfold ae.at at hb;grind
 . rfl
end Go.Ab
namespace Go.Ab
variable {b n:Nat} {wr:List Nat}
variable {M:az}
def rJ (b n:Nat)(wr:List Nat):Prop:=∀x∈wr,x=b\/n<=x
theorem rJ.only(h:uU b wr):rJ b n wr:=fun x hx=>.inl (h x hx)
theorem rJ.cons (h:rJ b n wr):rJ b n (b::wr):=fun x hx=>by
 rcases b6.1 hx with e|e
 . omega
 . exact h x e
theorem iL {f N:Nat}{aV:List Nat}{res:List fK}{body:ao}{ars:List AV}{P:AV->ae->Prop}(hft:M.FT f=some ⟨N,aV,res,body⟩)(hN:ars.length<=N)
 (h:W M body ⟨⟨aV.map (fun t=>(ars[t]?).getD cV),[],[],[]⟩,[]⟩ fun e s=>(e = .normal\/e = .ret)/\s.s.cF=[]/\∃vs,dU s.s res=some vs/\P (aT vs) (if (aT vs).top<=0 then [] else s.s.hp)):∃v hh,P v hh/\bg M f ars [] ⟨v,hh,[]⟩:=by
 obtain⟨⟨n,e,s,h1,h2,h3,vs,h4,h5⟩⟩:=h;exact⟨_,_,h5,bU hft hN ⟨⟨n,e,s,h1,h2,h3,vs,h4,rfl,rfl⟩⟩⟩
theorem WO.Hw {t o:Nat}{ag:Bool}{x:aS}{l:List bj}{pe:List AV}{lo:List (Nat×AV)}{hp:ae}{df:List Nat}{c:List AV}{e:TypeId}{v:AV}{Q:aw->Prop}(hx:(St.mk pe lo hp df).ah x=some (.ptr b o))(hb:hp.at b=some (.cells c e))(hv:partOf (c.drop o) 0 n ag=some v)
 (h:WO M l ⟨⟨pe,(t,v)::lo,hp,df⟩,wr⟩ Q):WO M (⟨.l t,.load n ag x,none⟩::l) ⟨⟨pe,lo,hp,df⟩,wr⟩ Q:=
 afU hx (show gB hp (.ptr b o)=some (c.drop o) by simp only[gB,hb]) hv h
theorem Rm {n:Int}(h:0<=n/\n<18446744073709551616):IntKind.u64.wrap n=n:=by
 simp only[IntKind.wrap,IntKind.bits,IntKind.signed];grind
theorem agu {t L:Nat}{x y:aS}{l:List bj}{pe:List AV}{lo:List (Nat×AV)}{hp:ae}{df:List Nat}{k:IntKind}{a:Int}{Q:aw->Prop}(hx:(St.mk pe lo hp df).ah x=some (.int .u64 a))(hy:(St.mk pe lo hp df).ah y=some (.int k L))(hL:L<=64)
 (hr:0<=a*2^L/\a*2^L<18446744073709551616) (h:WO M l ⟨⟨pe,(t,.int .u64 (a*2^L))::lo,hp,df⟩,wr⟩ Q):WO M (⟨.l t,.bin .shl x y,none⟩::l) ⟨⟨pe,lo,hp,df⟩,wr⟩ Q:=
 abx (v:=.int .u64 (a*2^L)) (by
  have e:min ((L:Int)).toNat IntKind.u64.bits=L:=by simp only[IntKind.bits];omega
  simp only[br,hx,hy,dO,e,Rm hr]<;>grind) rfl h
theorem Hy {α:Type}{f:α->List AV}(hf:∀a,(f a).all db=true):∀l:List α,(arr f l).all db=true
 | []=>rfl
 | a::l=>by
  have:=Hy hf l;simp only[arr]at this;simp only[arr,gR,List.all_append,hf a,this,Bool.and_self]
end Go.Ab
namespace Go.Ab
variable {M:az}
end Go.Ab
namespace Go.Ab
variable {P:Program} {gl:Nat->Option AV}
end Go.Ab
namespace Go.Ab
open Go.ChangeShapes Go.WideShapes Go.RowKit
variable {H:Type} {enc:TypeId×Value->H} {P:Program} {W:World} {base:Nat} {sp:Nat->Bool} {t e:TypeId} {v:Value} {d:DataW H} {ps:List MemPlace}
theorem Ro {c:Nat}:dv bare c:=⟨fun b d hb=>by simp[bare]at hb,fun hx=>hx⟩
end Go.Ab
namespace Go.Ab
variable {M:az}
abbrev ax:=List UInt8
def cM:List Int->Int
 | []=>0
 | e::r=>if e=0 then cM r else e
end Go.Ab
namespace Go.Ab
variable {h:ae} {v:AV} {n:Nat}
variable {M:az}
structure uW (M:az)(f:FuncId)(as:List AV)(h:ae)(K:HR->Prop):Prop where
 out:∃r,bg M f as h r/\K r
theorem uW.Hz {f N:Nat}{aV:List Nat}{res:List fK}{body:ao}{ars:List AV}{K:HR->Prop}(hft:M.FT f=some ⟨N,aV,res,body⟩)(hN:ars.length<=N)
 (hW:W M body ⟨⟨aV.map (fun t=>(ars[t]?).getD cV),[],h,[]⟩,[]⟩ fun e s=>(e = .normal\/e = .ret)/\∃s',lj s.s.cF s=some s'/\∃vs,dU s'.s res=some vs/\K (gm (aT vs) h.length s')):uW M f ars h K:=by
 obtain⟨⟨n,e,s,h1,h2,s',h3,vs,h4,h5⟩⟩:=hW;refine⟨_,⟨n,?_⟩,h5⟩;have h1':bC M.ext M.inv M.FT n body ⟨⟨aV.map (fun t=>(ars[t]?).getD cV),[],h,[]⟩,[]⟩=some (e,s):=h1;simp only[gW,hft]<;>grind
theorem Rp {s:aw}(hv:v.top<=n)(ht:tight s.s.hp n s.wr=true):gm v n s=⟨v,s.s.hp.take n,s.wr.filter (· < n)⟩:=by
 unfold gm;grind
theorem afh {t:Nat}{x y:aS}{l:List bj}{pe:List AV}{lo:List (Nat×AV)}{hp:ae}{df wr:List Nat}{a b:ax}{Q:aw->Prop}(hx:(St.mk pe lo hp df).ah x=some (.str a))(hy:(St.mk pe lo hp df).ah y=some (.str b))(hr:a.length+b.length<4611686018427387904)
 (h:WO M l ⟨⟨pe,(t,.str (a++b))::lo,hp,df⟩,wr⟩ Q):WO M (⟨.l t,.bin .add x y,none⟩::l) ⟨⟨pe,lo,hp,df⟩,wr⟩ Q:=
 abx (v:=.str (a++b)) (by simp only[br,hx,hy,dO];grind) rfl h
theorem Rq {J:ae}{s:aw}(hh:s.s.hp=h++J)(hw:∀x∈s.wr,h.length<=x)(hv:v.top<=h.length):gm v h.length s=⟨v,h,[]⟩:=by
 have hf:s.wr.filter (· < h.length)=[]:=by
  rw[List.filter_eq_nil_iff];intro x hx;have:=hw x hx;simp;omega
 have ht:tight s.s.hp h.length s.wr=true:=by
  simp only[tight,ck];intro x hx;have:=hw x hx;split <;> simp[this]
 grind[Rp]
theorem mI {g N:Nat}{aV:List Nat}{res:List fK}{body:ao}{ars:List AV}(hft:M.FT g=some ⟨N,aV,res,body⟩)(hN:ars.length<=N)(hv:v.top<=h.length)
 (hW:W M body ⟨⟨aV.map (fun t=>(ars[t]?).getD cV),[],h,[]⟩,[]⟩ fun x s=>(x = .normal\/x = .ret)/\s.s.cF=[]/\(∃J,s.s.hp=h++J)/\(∀x∈s.wr,h.length<=x)/\∃vs,dU s.s res=some vs/\aT vs=v):bg M g ars h ⟨v,h,[]⟩:=by
 refine Ht hft hN (hW.mono fun x s ⟨h1,h2,⟨J,h3⟩,h4,vs,h5,h6⟩=>⟨h1,h2,vs,h5,?_⟩);grind[Rq]
section
variable {t b j:Nat} {x y:aS} {l:List bj} {pe:List AV} {lo:List (Nat×AV)} {hp:ae} {df wr:List Nat} {c:List AV} {e:TypeId} {Q:aw->Prop}
theorem afN {ag:Bool}(hx:(St.mk pe lo hp df).ah x=some (.ptr b j))(hb:hp.at b=some (.cells c e))(hv:partOf (c.drop j) 0 n ag=some v)
 (h:WO M l ⟨⟨pe,(t,v)::lo,hp,df⟩,wr⟩ Q):WO M (⟨.l t,.load n ag x,none⟩::l) ⟨⟨pe,lo,hp,df⟩,wr⟩ Q:=
 acH (v:=v) (h':=hp) (w':=[]) (by simp only[cg,hx,bP,gB,hb,hv]) rfl rfl h
theorem afa {new:List AV}(hx:(St.mk pe lo hp df).ah x=some (.ptr b j))(hy:((St.mk pe lo hp df).ah y).bind AV.cells=some new)(hb:hp.at b=some (.cells c e))(hn:new.length=n/\j+n<=c.length/\new.all db=true){c':List AV}(hc:overwrite c j new=c')
 (h:WO M l ⟨⟨pe,lo,hp.put b (some (.cells c' e)),df⟩,b::wr⟩ Q):WO M (⟨.no,.store n x y,none⟩::l) ⟨⟨pe,lo,hp,df⟩,wr⟩ Q:=by
 subst hc;refine aeS (v:=cV) (h':=hp.put b (some (.cells (overwrite c j new) e))) (w':=[b]) ?_ rfl rfl h;simp only[cg,hx,hy,hb]<;>grind
end
end Go.Ab
namespace Go.Ab
variable {M:az} {t:Nat} {x y z:aS} {l:List bj} {pe:List AV} {lo:List (Nat×AV)} {hp:ae} {df wr:List Nat} {s r:ax} {k k':IntKind} {a b:Int} {Q:aw->Prop}
theorem afy (hx:(St.mk pe lo hp df).ah x=some (.str s))(hy:(St.mk pe lo hp df).ah y=some (.int k a))(ha:0<=a/\a<=s.length)(hr:s.drop a.toNat=r)
 (h:WO M l ⟨⟨pe,(t,.str r)::lo,hp,df⟩,wr⟩ Q):WO M (⟨.l t,.slice .str 1 x (some y) none none,none⟩::l) ⟨⟨pe,lo,hp,df⟩,wr⟩ Q:=by
 subst hr;refine abx (v:=.str (s.drop a.toNat)) ?_ rfl h;simp only[br,hx,St.eK,hy,bW,jW,cA];rw[if_pos ha];grind[ew]
theorem afD (hx:(St.mk pe lo hp df).ah x=some (.str s))(hy:(St.mk pe lo hp df).ah y=some (.int k a))(ha:0<=a/\a<=s.length)(hr:s.take a.toNat=r)
 (h:WO M l ⟨⟨pe,(t,.str r)::lo,hp,df⟩,wr⟩ Q):WO M (⟨.l t,.slice .str 1 x none (some y) none,none⟩::l) ⟨⟨pe,lo,hp,df⟩,wr⟩ Q:=by
 subst hr;refine abx (v:=.str (s.take a.toNat)) ?_ rfl h;simp only[br,hx,St.eK,hy,bW,jW,cA]<;>grind
theorem agA (hx:(St.mk pe lo hp df).ah x=some (.str s))(hy:(St.mk pe lo hp df).ah y=some (.int k a))(hz:(St.mk pe lo hp df).ah z=some (.int k' b))(ha:0<=a/\a<=b/\b<=s.length)(hr:(s.drop a.toNat).take (b.toNat-a.toNat)=r)
 (h:WO M l ⟨⟨pe,(t,.str r)::lo,hp,df⟩,wr⟩ Q):WO M (⟨.l t,.slice .str 1 x (some y) (some z) none,none⟩::l) ⟨⟨pe,lo,hp,df⟩,wr⟩ Q:=by
 subst hr;refine abx (v:=.str ((s.drop a.toNat).take (b.toNat-a.toNat))) ?_ rfl h;have h1:0<=b/\b<=(s.length:Int):=⟨ac,ha.2.2⟩;have h2:0<=a/\a<=(b.toNat:Int):=⟨ha.1,ac⟩;simp only[br,hx,St.eK,hy,hz,bW,jW,cA]<;>grind
theorem agB {m:Int}(hx:(St.mk pe lo hp df).ah x=some (.int k a))(hy:(St.mk pe lo hp df).ah y=some (.int k b))(hm:m=a/\a<=b\/m=b/\b<=a)
 (h:WO M l ⟨⟨pe,(t,.int k m)::lo,hp,df⟩,wr⟩ Q):WO M (⟨.l t,.mm false [x,y],none⟩::l) ⟨⟨pe,lo,hp,df⟩,wr⟩ Q:=by
 refine abx (v:=.int k m) ?_ rfl h;simp only[br,St.cX,hx,hy];have e:(if b<a then b else a)=m:=by split <;> omega
 simp[nw,e]
end Go.Ab
namespace Go.Ab
variable {e:TypeId}
variable {M:az}
theorem afq {u n b off:Nat}{ag:Bool}{x:aS}{L:List bj}{pe:List AV}{lo:List (Nat×AV)}{hp:ae}{df wr:List Nat}{c:List AV}{v:AV}{Q:aw->Prop}(hx:(St.mk pe lo hp df).ah x=some (.ptr b off))(hb:hp.at b=some (.cells c e))(hv:partOf (c.drop off) 0 n ag=some v)
 (h:WO M L ⟨⟨pe,(u,v)::lo,hp,df⟩,wr⟩ Q):WO M (⟨.l u,.load n ag x,none⟩::L) ⟨⟨pe,lo,hp,df⟩,wr⟩ Q:=
 acH (v:=v) (h':=hp) (w':=[]) (by simp only[cg,hx,bP,gB,hb,hv]) rfl rfl h
theorem afu {n:Nat}{x y:aS}{L:List bj}{pe:List AV}{lo:List (Nat×AV)}{K:ae}{df wr:List Nat}{c c' new:List AV}{Q:aw->Prop}(hx:(St.mk pe lo (K++[some (.cells c e)]) df).ah x=some (.ptr K.length 0))(hy:((St.mk pe lo (K++[some (.cells c e)]) df).ah y).bind AV.cells=some new)
 (hn:new.length=n/\n<=c.length/\new.all db=true) (ho:overwrite c 0 new=c') (h:WO M L ⟨⟨pe,lo,K++[some (.cells c' e)],df⟩,K.length::wr⟩ Q):WO M (⟨.no,.store n x y,none⟩::L) ⟨⟨pe,lo,K++[some (.cells c e)],df⟩,wr⟩ Q:=by
 obtain⟨h1,h2,h3⟩:=hn;refine aeS (v:=cV) (h':=K++[some (.cells c' e)]) (w':=[K.length]) ?_ rfl rfl h;simp only[cg,hx,hy,cC,hZ];rw[if_pos ⟨h1,h2,h3⟩,ho];simp[ae.put]
def AL {α:Type}(f:α->List AV)(esz:Nat)(e:TypeId)(hp:ae)(o:AV)(acc:List α)(S:List Nat):Prop:=(acc=[]/\o = .ab)\/∃c,acc≠[]/\c∉S/\o = .sl c 0 acc.length esz none/\hp.at c=some (.cells (arr f acc) e)
theorem AL.fin {α:Type}{f:α->List AV}{esz:Nat}{hp:ae}{o:AV}{acc:List α}{S:List Nat}(h:AL f esz e hp o acc S):AL f esz e (if (aT [o]).top<=0 then [] else hp) o acc S:=by
 rcases h with ⟨h1,rfl⟩|⟨c,h0,h1,rfl,h2⟩
 . exact .inl ⟨h1,rfl⟩
 . refine .inr ⟨c,h0,h1,rfl,?_⟩;rw[if_neg (by simp[aT,AV.top])];exact h2
end Go.Ab
namespace Go.Ab
variable {M:az} {P:Program} {gl:Nat->Option AV}
open Classical in
noncomputable def pT (R:List AV->ae->HR->Prop):Spec:=fun as h=>if e:∃r,R as h r then some (j4 e) else none
theorem HA {f:Nat}{R:List AV->ae->HR->Prop}(hR:∀as h r,R as h r->bw P gl ⟨f,as,h,r⟩):aZ P gl f (pT R):=by
 intro as h r hq;unfold pT at hq;split at hq<;>grind
theorem HB {R:List AV->ae->HR->Prop}{as:List AV}{h:ae}{r:HR}(hr:R as h r)(hd:∀r',R as h r'->r'=r):pT R as h=some r:=by
 unfold pT;rw[dif_pos ⟨r,hr⟩];grind
section
variable {α:Type} {f:α->List AV} {esz:Nat}
theorem Sl.pU {h:ae}:Sl f h .ab ([]:List α):=.inl ⟨rfl,rfl⟩
theorem Sl.kJ (hf:∀a,(f a).length=esz){h:ae}{l:List α}{b n:Nat}{e:TypeId}{cap:Option Nat}(hb:h.at b=some (.cells (arr f l) e))(hn:l.length=n):Sl f h (.sl b 0 n esz cap) l:=by
 subst hn;refine .inr (.inr ⟨b,0,esz,cap,_,e,rfl,hb,?_⟩);have:=lJ hf (l:=l) (i:=0) (n:=l.length) ac<;>grind
end
end Go.Ab
namespace Go.Ab
open Go.ChangeShapes Go.WideShapes Go.RowKit
inductive jf
 | bool
 | int (k:IntKind)
 | str
 | slice (es:List jf)
mutual
def Has:jf->AV->Prop
 | .bool,x=>∃b,x = .bool b
 | .int k,x=>∃n,x = .int k n/\(Lit.int k n).wf=true
 | .str,x=>∃s:List UInt8,x = .str s/\s.length<=maxLen
 | .slice es,x=>∃ls:List (List AV),x = .vs ls.flatten ls.length none/\ls.length<=maxLen/\∀c∈ls,fv es c
def fv:List jf->List AV->Prop
 | [],l=>l=[]
 | t::ts,l=>∃x r,l=x::r/\Has t x/\fv ts r
end
theorem fv.length:∀{ts:List jf} {l:List AV},fv ts l->l.length=ts.length
 | [],l,h=>by simp only[fv]at h;grind
 | t::ts,l,h=>by
  simp only[fv]at h;obtain⟨x,r,rfl,_,h2⟩:=h;simp[h2.length]
theorem fv.append:∀{ts us:List jf} {l m:List AV},fv ts l->fv us m->fv (ts++us) (l++m)
 | [],us,l,m,h,h'=>by simp only[fv]at h;grind
 | t::ts,us,l,m,h,h'=>by
  simp only[fv]at h;obtain⟨x,r,rfl,h1,h2⟩:=h;simp only[f7,fv];exact⟨x,r++m,rfl,h1,h2.append h'⟩
section
variable (P:Program)
def uX (rec:TypeId->Option (List jf)):List Field->Nat->Option (List jf)
 | [],_=>some []
 | f::fs,o=>if f.offset=o then match rec f.type with
     | some l=>if l.length=P.cellsOf f.type then (uX rec fs (o+l.length)).map (l ++ ·) else none
     | none=>none
   else none
def mK:Nat->TypeId->Option (List jf)
 | 0,_=>none
 | n+1,t=>match P.underlying t with
   | some .bool=>some [.bool]
   | some (.int k)=>some [.int k]
   | some .string=>some [.str]
   | some (.slice e)=>match mK n e with
     | some (c::r)=>if (c::r).length=P.cellsOf e then some [.slice (c::r)] else none
     | _=>none
   | some (.struct fs)=>match uX P (mK n) fs.toList 0 with
     | some l=>if l.length=P.cellsOf t then some l else none
     | none=>none
   | some (.array m e)=>match mK n e with
     | some l=>if l.length=P.cellsOf e/\(dw m l).flatten.length=P.cellsOf t then some (dw m l).flatten else none
     | none=>none
   | _=>none
end
variable {H:Type} {enc:TypeId×Value->H} {P:Program} {W:World}
def AM (H:Type)(enc:TypeId×Value->H)(P:Program)(W:World)(t:TypeId)(l:List jf):Prop:=
 ∀(fuel:Nat) (cs:List Value) (x:DataW H×List MemPlace),DataW.trod enc P W 0 (fun _=>true) true fuel t cs=some x->∃xs,fv l xs/\VL bare W xs cs
theorem HC (rec:TypeId->Option (List jf))(hrec:∀t l,rec t=some l->AM H enc P W t l){cs:List Value}:∀(fs:List Field) (o:Nat) (l:List jf),uX P rec fs o=some l->o<=cs.length ->
 (∀(i:Nat) (f:Field),fs[i]? = some f->∃(n:Nat) (x:DataW H×List MemPlace),DataW.trod enc P W 0 (fun _=>true) true n f.type ((cs.drop f.offset).take (P.cellsOf f.type))=some x) ->
 ∃xs,fv l xs/\VL bare W xs ((cs.drop o).take l.length)
 | [],o,l,h,_,_=>by
  cases h;exact⟨[],rfl,by simpa using VL.nil⟩
 | f::fs,o,l,h,ho,hf=>by
  simp only[uX]at h;split at h
  . rename_i hoff;split at h
    . rename_i l1 hl1;split at h
      . rename_i hlen;rw[be]at h;obtain⟨l2,hl2,rfl⟩:=h;obtain⟨n,x,hx⟩:=hf 0 f rfl;rw[hoff,←hlen]at hx;obtain⟨xs1,g1,g2⟩:=hrec _ _ hl1 _ _ _ hx;have e1:((cs.drop o).take l1.length).length=l1.length:=by rw[←g2.1,g1.length]
        have ho':o+l1.length<=cs.length:=by simp at e1;omega
        obtain⟨xs2,g3,g4⟩:=HC rec hrec fs (o+l1.length) l2 hl2 ho' (fun i f hi=>hf (i+1) f hi);refine⟨xs1++xs2,g1.append g3,?_⟩;have e2:(cs.drop o).take (l1++l2).length=(cs.drop o).take l1.length++(cs.drop (o+l1.length)).take l2.length:=by
         rw[cn,k9,ki]
        rw[e2];exact g2.append g4
      . cases h
    . cases h
  . cases h
theorem HD (l:List jf){e:TypeId}(he:AM H enc P W e l){cs:List Value}:∀(m o:Nat),o+m*l.length<=cs.length ->
 (∀i,i<m->∃(n:Nat) (x:DataW H×List MemPlace),DataW.trod enc P W 0 (fun _=>true) true n e ((cs.drop (o+i*l.length)).take l.length)=some x) ->
 ∃xs,fv (dw m l).flatten xs/\VL bare W xs ((cs.drop o).take (m*l.length))
 | 0,o,_,_=>⟨[],rfl,by simpa using VL.nil⟩
 | m+1,o,ho,h=>by
  obtain⟨n,x,hx⟩:=h 0 ac;rw[Nat.zero_mul,i9]at hx;obtain⟨xs1,g1,g2⟩:=he _ _ _ hx;have e0:(m+1)*l.length=l.length+m*l.length:=by rw[j6];omega
  obtain⟨xs2,g3,g4⟩:=HD (cs:=cs) l he m (o+l.length) ac au;refine⟨xs1++xs2,?_,?_⟩
  . rw[i6,gT];exact g1.append g3
  . rw[e0,k9,ki];exact g2.append g4
theorem HE {n:Nat}:∀{ls:List (List AV)} {j:Nat} {x:AV},0<n->(∀c∈ls,c.length=n)->ls.flatten[j]? = some x->∃c,ls[j/n]? = some c/\c[j%n]? = some x
 | [],j,x,_,_,h=>by simp at h
 | a::ls,j,x,hn,hl,h=>by
  have ha:a.length=n:=hl a am;rw[gT]at h;rcases ba j n with hj|hj
  . rw[b8 ac]at h;refine⟨a,?_,?_⟩
    . rw[Nat.div_eq_of_lt hj];rfl
    . rw[Nat.mod_eq_of_lt hj];exact h
  . rw[dK ac,ha]at h;obtain⟨c,h1,h2⟩:=HE (j:=j-n) hn au h;have e1:j/n=(j-n)/n+1:=by
     rw[←Nat.add_div_right _ hn,Nat.sub_add_cancel hj]
    have e2:j%n=(j-n)%n:=by
     rw[←Nat.mod_eq_sub_mod hj]
    grind
theorem HF {n:Nat}:∀{ls:List (List AV)},(∀c∈ls,c.length=n)->ls.flatten.length=ls.length*n
 | [],_=>by simp
 | a::ls,h=>by
  rw[gT,cn,h a am,HF (fun c hc=>h c (by simp[hc])),d6,j6];omega
theorem uY:∀(n:Nat) (t:TypeId) (l:List jf),mK P n t=some l->AM H enc P W t l
 | 0,t,l,h=>by cases h
 | n+1,t,l,h=>by
  intro fuel cs x hx;unfold mK at h;split at h
  . rename_i hu;cases h;obtain⟨b,rfl,_⟩:=DataW.trod_bool hu hx;exact⟨[.bool b],by simp[fv,Has],.cons (.bool b) .nil⟩
  . rename_i k hu;cases h;obtain⟨z,rfl,_,hw⟩:=DataW.trod_int hu hx;refine⟨[.int k z],?_,.cons (.int k z) .nil⟩;simp only[fv,Has];exact⟨_,[],rfl,⟨z,rfl,hw⟩,rfl⟩
  . rename_i hu;cases h;obtain⟨z,rfl,_,hw⟩:=DataW.trod_string hu hx;refine⟨[.str z.data.toList],?_,.cons (.uc z) .nil⟩;simp only[fv,Has];have e:z.data.toList.length=z.size:=Array.length_toList;exact⟨_,[],rfl,⟨_,rfl,ac⟩,rfl⟩
  . rename_i e hu;split at h
    . rename_i c r hc;split at h
      . rename_i hlen;cases h;have he:=uY n e (c::r) hc;rcases Go.Deep.open_slice hu hx with ⟨rfl,_⟩|⟨a,len,cap,m,k,D,Pl,rfl,_,hle,hcap,hm,_,hall⟩
        . refine⟨[.vs [] 0 none],?_,.cons (.fm am) .nil⟩;simp only[fv,Has];exact⟨_,[],rfl,⟨[],rfl,i5 _,am⟩,rfl⟩
        . have hm':m=cap:=by simpa using hm
          subst hm';by_cases h0:m=0
          . subst h0;obtain rfl:len=0:=by omega
            refine⟨[.vs [] 0 none],?_,.cons (.fT a am) .nil⟩;simp only[fv,Has];exact⟨_,[],rfl,⟨[],rfl,i5 _,am⟩,rfl⟩
          . rw[←hlen]at hall;have hn0:0<(c::r).length:=by simp
            generalize hes:(c::r)=es at *
            have hsp:a.spot=none:=by
             obtain⟨cs',h1,_⟩:=hall 0 ac;obtain⟨_,hl3,hc3⟩:=j0 h1;have h5:=hc3 0 ac;rw[aR ac]at h5;have:=World.cell?_spot h5;simpa[Addr.add] using this
            obtain⟨b,off,spot⟩:=a;simp only at hsp;subst hsp;have hex:∀i,i<len->∃cx:List Value×List AV,W.cells? 0 ((Addr.mk b off none).add (i*es.length)) es.length=some cx.1/\fv es cx.2/\VL bare W cx.2 cx.1:=fun i hi=>by
             obtain⟨cs',h1,h2⟩:=hall i ac;obtain⟨xs,h3,h4⟩:=he _ _ _ h2;exact⟨(cs',xs),h1,h3,h4⟩
            obtain⟨f,hf⟩:=Go.Deep.choose_lt (α:=List Value×List AV) hex;have hL:∀c∈(kn len).map (fun i=>(f i).2),fv es c:=au;have hLl:∀c∈(kn len).map (fun i=>(f i).2),c.length=es.length:=fun c hc=>(hL c hc).length
            refine⟨[.vs ((kn len).map (fun i=>(f i).2)).flatten len none],?_,.cons ?_ .nil⟩
            . simp only[fv,Has];exact⟨_,[],rfl,⟨_,am,au,hL⟩,rfl⟩
            . have hfl:=HF hLl;rw[j8,List.length_range]at hfl;have hdiv:∀i,i<len*es.length->i/es.length<len:=fun i hi=>(Nat.div_lt_iff_lt_mul hn0).2 hi
              refine .vs b off (fun j=>((f (j/es.length)).1[j%es.length]?).getD (.bool false)) (fun _=>Ro) hle am (fun j hj=>?_) (fun j x hx=>?_)
              . rw[hfl]at hj;obtain⟨h1,_,h3⟩:=hf _ (hdiv j hj);obtain⟨_,hl3,hc3⟩:=j0 h1;have hmod:=Nat.mod_lt j hn0;have:=hc3 (j%es.length) ac;rw[add_plain,add_plain]at this;have e:off+j=off+j/es.length*es.length+j%es.length:=by
                 have:=Nat.div_add_mod j es.length;rw[Nat.mul_comm]at this;omega
                rw[e,this,aR ac];rfl
              . obtain⟨c',h1,h2⟩:=HE hn0 hLl hx;have hlt:j<len*es.length:=by
                 rw[←hfl];exact(aL.1 hx).1
                have hd:=hdiv j hlt;rw[c9,List.getElem?_range hd,bW]at h1;cases h1;obtain⟨g1,g2,g3⟩:=hf _ hd;have hmod:=Nat.mod_lt j hn0;have hl3:j%es.length<(f (j/es.length)).1.length:=by rw[←g3.1,g2.length];exact hmod
                rw[aR hl3];exact g3.2 _ _ _ h2 (aR hl3)
      . cases h
    . cases h
  . rename_i fs hu;split at h
    . rename_i l' hl';split at h
      . rename_i hlen;cases h;obtain⟨xs,k,_,_,hcl,hxl,hall⟩:=DataW.trod_struct hu hx;have:=HC (H:=H) (enc:=enc) (W:=W) (cs:=cs) (mK P n) (fun t l ht=>uY n t l ht) fs.toList 0 _ hl' (i5 _) (fun i f hi=>by
         grind)
        grind
      . cases h
    . cases h
  . rename_i m e hu;split at h
    . rename_i l' hl';split at h
      . rename_i hlen;cases h;obtain⟨h1,h2⟩:=hlen;obtain⟨xs,k,_,_,hcl,hxl,hall⟩:=DataW.trod_array hu hx;have e2:m*l'.length=cs.length:=by rw[hcl,←h2];simp
        have:=HD (H:=H) (enc:=enc) (W:=W) (cs:=cs) l' (uY n e l' hl') m 0 ac (fun i hi=>by
         grind)
        grind
      . cases h
    . cases h
  . cases h
theorem Rs {n:Nat}{t:TypeId}{l:List jf}{v:Value}{d:DataW H}{ps:List MemPlace}{cs:Array Value}(hc:mK P n t=some l)(hv:v = .agg cs)(h:DataW.Trod enc P W 0 (fun _=>true) true t v d ps):∃xs,fv l xs/\V bare W (.agg xs) v:=by
 subst hv;obtain⟨fuel,hf⟩:=h;obtain⟨xs,h1,h2⟩:=uY n t _ hc _ _ _ hf;refine⟨xs,h1,?_⟩;have:=V.agg (ρ:=bare) (w:=W) h2.1 h2.2;have e:(Value.agg cs).cells.toList.toArray=cs:=by
  show cs.toList.toArray=cs;simp
 grind
def AN (P:Program)(t:TypeId):Bool:=match P.underlying t with
 | some (.struct _)=>true
 | some (.array _ _)=>true
 | _=>false
theorem Rt {w:World}{r:Reach}{base:Nat}{t:TypeId}{v:Value}(hr:AN P t=true)(h:j1 P w r base t v):∃cs,v = .agg cs:=by
 unfold AN at hr;split at hr
 . rename_i fs hu;simp only[j1,hu]at h;grind
 . rename_i n e hu;simp only[j1,hu]at h;grind
 grind
end Go.Ab
