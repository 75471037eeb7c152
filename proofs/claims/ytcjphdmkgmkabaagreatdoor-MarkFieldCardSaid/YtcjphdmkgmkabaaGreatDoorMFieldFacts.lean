/-
  Own work: MField: the closed facts of its row, each by the kernel.
-/
import Derived.Test.YtcjphdmkgmkabaaGreatDoorRows
import Derived.Test.YtcjphdmkgmkabaaGreatDoorCards
import Derived.JoinedCond
import Derived.SevenTiedAt
import Derived.KernelRfl
set_option maxHeartbeats 8000000
namespace Go.Proofs.YtcjphdmkgmkabaaGreatDoor.markField
open Go.ChangeShapes Go.WideShapes Go.ChangeAt
theorem band {a b:Bool}(h:a=true)(k:b=true):(a && b)=true:=by rw[h,k];rfl
theorem fact0:(Rows.markFieldRow.wf (OpenSpec.ofChange ((OpenSpec.ofChange Rows.markFieldSpec).bare)))=true:=by kernel_rfl
theorem fact1:(laidOutB Tryz.pinned.checked.prog)=true:=by kernel_rfl
theorem fact2:(mapsRowed Tryz.pinned.checked.prog)=true:=by kernel_rfl
theorem fact3:(Tryz.f17.params.all (Tryz.pinned.checked.prog.readableRec ·))=true:=by kernel_rfl
theorem fact4:(namedTie Tryz.pinned.checked.prog Rows.markFieldRow.named ((OpenSpec.ofChange Rows.markFieldSpec).bare).vars)=true:=by kernel_rfl
theorem fact5:((Rows.markFieldRow.stops == []))=true:=by kernel_rfl
theorem fact6:((Tryz.pinned.checked.prog.stops == []))=true:=by kernel_rfl
theorem fact7:((Rows.markFieldRow.knobs == []))=true:=by kernel_rfl
theorem fact8:((Tryz.pinned.checked.prog.stopKnobs == []))=true:=by kernel_rfl
theorem fact9:((Rows.markFieldRow.inPlace == Tryz.pinned.checked.prog.inPlace 17))=true:=by kernel_rfl
theorem fact10:((Rows.markFieldRow.unfollowed == Tryz.pinned.checked.prog.unfollowed 17))=true:=by kernel_rfl
theorem fact11:((Rows.markFieldRow.recurses == Tryz.pinned.checked.prog.recurses 17))=true:=by kernel_rfl
theorem fact12:((Rows.markFieldRow.named == Tryz.pinned.checked.prog.varsNamed 17))=true:=by kernel_rfl
theorem fact13:((Rows.markFieldRow.maps == (Tryz.f17.params.toList++((OpenSpec.ofChange Rows.markFieldSpec).bare).plain.varTypes Tryz.pinned.checked.prog).any (Tryz.pinned.checked.prog.mapsRec ·)))=true:=by kernel_rfl
theorem fact14:((Rows.markFieldRow.ifaces == (Tryz.f17.params.toList++((OpenSpec.ofChange Rows.markFieldSpec).bare).plain.varTypes Tryz.pinned.checked.prog).any (Tryz.pinned.checked.prog.ifacesRec ·)))=true:=by kernel_rfl
theorem fact15:((Rows.markFieldRow.mapsOut == Tryz.pinned.checked.prog.mapsAmong Tryz.f17.resultTypes.toList))=true:=by kernel_rfl
theorem fact16:((Rows.markFieldRow.loops == (Tryz.f17.params.toList++((OpenSpec.ofChange Rows.markFieldSpec).bare).plain.varTypes Tryz.pinned.checked.prog).any (Tryz.pinned.checked.prog.loopsFrom ·)))=true:=by kernel_rfl
theorem fact17:((Rows.markFieldRow.wideKeys == (Tryz.f17.params.toList++((OpenSpec.ofChange Rows.markFieldSpec).bare).plain.varTypes Tryz.pinned.checked.prog++Tryz.f17.resultTypes.toList).any (Tryz.pinned.checked.prog.wideKeysFrom ·)))=true:=by kernel_rfl
theorem fact18:(((OpenSpec.ofChange Rows.markFieldSpec).bare).vars.all (Tryz.pinned.checked.prog.varReadable ·))=true:=by kernel_rfl
theorem fact19:(Tryz.f17.resultTypes.all (fun t=>Tryz.pinned.checked.prog.readableRec t && decide (t<Tryz.pinned.checked.prog.types.size)))=true:=by kernel_rfl
theorem fact20:((Rows.markFieldRow.ifacesOut == Tryz.f17.resultTypes.toList.any (Tryz.pinned.checked.prog.ifacesRec ·)))=true:=by kernel_rfl
theorem fact21:((Rows.markFieldRow.loopsOut == Tryz.f17.resultTypes.toList.any (Tryz.pinned.checked.prog.loopsFrom ·)))=true:=by kernel_rfl
theorem fact22:((Rows.markFieldRow.plainKeys == Tryz.pinned.checked.prog.plainKeys))=true:=by kernel_rfl
theorem fact23:(Rows.markFieldRow.shortTexts.isNone)=true:=by kernel_rfl
theorem fact24:(Tryz.pinned.checked.prog.stopsHeard)=true:=by kernel_rfl
theorem fact25:(Tryz.pinned.checked.prog.mayEnter)=true:=by kernel_rfl
theorem fact26:((Rows.markFieldRow.lifted == Tryz.pinned.checked.prog.liftsFinal))=true:=by kernel_rfl
theorem fact27:((Tryz.pinned.checked.prog.make == some Rows.markFieldRow.make))=true:=by kernel_rfl
theorem fact28:((Rows.markFieldRow.kinds == (if Rows.markFieldRow.domain.isEmpty then [] else Tryz.f17.params.toList.map fun t=>match Tryz.pinned.checked.prog.underlying t with|some (.int k)=>some k|_=>none)))=true:=by kernel_rfl
theorem fact29:((Rows.markFieldRow.pinned == Rows.markFieldRow.pinnedBy))=true:=by kernel_rfl
theorem fact30:((Rows.markFieldRow.veiled == (Tryz.f17.params.toList++((OpenSpec.ofChange Rows.markFieldSpec).bare).plain.varTypes Tryz.pinned.checked.prog++Tryz.f17.resultTypes.toList).any (Tryz.pinned.checked.prog.veiledRec ·)))=true:=by kernel_rfl
theorem fact31:(Rows.markFieldRow.veiledFits Tryz.pinned.checked.prog Tryz.f17.params.toList (Tryz.f17.params.toList++((OpenSpec.ofChange Rows.markFieldSpec).bare).plain.varTypes Tryz.pinned.checked.prog++Tryz.f17.resultTypes.toList))=true:=by kernel_rfl
set_option maxRecDepth 100000 in
theorem closed:joinedFacts Tryz.pinned.checked.prog 17 Tryz.f17 ((OpenSpec.ofChange Rows.markFieldSpec).bare) Rows.markFieldRow=true:=by
 unfold joinedFacts
 exact(band (band (band (band (band (band (band (band (band (band (band (band (band (band (band (band (band (band (band (band (band (band (band (band (band (band (band (band (band (band (band fact0 fact1) fact2) fact3) fact4) fact5) fact6) fact7) fact8) fact9) fact10) fact11) fact12) fact13) fact14) fact15) fact16) fact17) fact18) fact19) fact20) fact21) fact22) fact23) fact24) fact25) fact26) fact27) fact28) fact29) fact30) fact31)
theorem named : Tryz.prog.funcNamed "stadion/stadionlaw01.MarkField" = some 17 := by kernel_rfl
theorem wfText:Rows.markFieldRow.wfByText (OpenSpec.ofChange Rows.markFieldSpec)=true:=by kernel_rfl
theorem mainIs:Tryz.pinned.checked.prog.mainIs=some (Rows.markFieldCard.stood.harness.1,Rows.markFieldCard.stood.harness.2.toList):=by kernel_rfl
theorem looksT:true=Tryz.pinned.checked.prog.looks []:=by kernel_rfl
theorem goesF:false=Rows.markFieldRow.goesBy Tryz.pinned.checked.prog:=by kernel_rfl
theorem noStand:([75].all fun u=>!Tryz.prog.wantsStandIn u)=true:=by kernel_rfl
theorem plain (f : FuncId)(fn : Func)(hf : Tryz.pinned.checked.prog.funcNamed "stadion/stadionlaw01.MarkField" = some f)(hfn : Tryz.pinned.checked.prog.funcs[f]? = some fn) :
 true=Tryz.pinned.checked.prog.looks []/\∀(j:Nat) t,fn.params[j]? = some t->Tryz.pinned.checked.prog.wantsStandIn t=false:=by
 obtain rfl:f=17:=Option.some.inj (named.symm.trans hf) |>.symm
 obtain rfl:fn=Tryz.f17:=(Option.some.inj (Tryz.func17.symm.trans hfn)).symm
 refine⟨looksT,fun j t ht=>?_⟩
 rw[Tryz.params17]at ht
 have hm:t∈[75]:=by simpa using Array.mem_of_getElem? ht
 exact(show Tryz.prog.wantsStandIn t=false by simpa using List.all_eq_true.1 noStand t hm)
end Go.Proofs.YtcjphdmkgmkabaaGreatDoor.markField
