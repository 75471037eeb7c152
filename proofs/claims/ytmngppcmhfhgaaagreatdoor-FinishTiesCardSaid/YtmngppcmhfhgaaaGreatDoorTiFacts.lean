/-
  Own work: Ti: the closed facts of its row, each by the kernel.
-/
import Derived.Test.YtmngppcmhfhgaaaGreatDoorRows
import Derived.Test.YtmngppcmhfhgaaaGreatDoorCards
import Derived.JoinedCond
import Derived.SevenTiedAt
import Derived.KernelRfl
set_option maxHeartbeats 8000000
set_option maxRecDepth 20000
namespace Go.Proofs.YtmngppcmhfhgaaaGreatDoor.finishTies
open Go.ChangeShapes Go.WideShapes Go.ChangeAt
theorem band {a b:Bool}(h:a=true)(k:b=true):(a && b)=true:=by rw[h,k];rfl
theorem fact0:(Rows.finishTiesRow.wf (OpenSpec.ofChange ((OpenSpec.ofChange Rows.finishTiesSpec).bare)))=true:=by kernel_rfl
theorem fact1:(laidOutB Tryz.pinned.checked.prog)=true:=by kernel_rfl
theorem fact2:(mapsRowed Tryz.pinned.checked.prog)=true:=by kernel_rfl
theorem fact3:(Tryz.f9.params.all (Tryz.pinned.checked.prog.readableRec ·))=true:=by kernel_rfl
theorem fact4:(namedTie Tryz.pinned.checked.prog Rows.finishTiesRow.named ((OpenSpec.ofChange Rows.finishTiesSpec).bare).vars)=true:=by kernel_rfl
theorem fact5:((Rows.finishTiesRow.stops == []))=true:=by kernel_rfl
theorem fact6:((Tryz.pinned.checked.prog.stops == []))=true:=by kernel_rfl
theorem fact7:((Rows.finishTiesRow.knobs == []))=true:=by kernel_rfl
theorem fact8:((Tryz.pinned.checked.prog.stopKnobs == []))=true:=by kernel_rfl
theorem fact9:((Rows.finishTiesRow.inPlace == Tryz.pinned.checked.prog.inPlace 9))=true:=by kernel_rfl
theorem fact10:((Rows.finishTiesRow.unfollowed == Tryz.pinned.checked.prog.unfollowed 9))=true:=by kernel_rfl
theorem fact11:((Rows.finishTiesRow.recurses == Tryz.pinned.checked.prog.recurses 9))=true:=by kernel_rfl
theorem fact12:((Rows.finishTiesRow.named == Tryz.pinned.checked.prog.varsNamed 9))=true:=by kernel_rfl
theorem fact13:((Rows.finishTiesRow.maps == (Tryz.f9.params.toList++((OpenSpec.ofChange Rows.finishTiesSpec).bare).plain.varTypes Tryz.pinned.checked.prog).any (Tryz.pinned.checked.prog.mapsRec ·)))=true:=by kernel_rfl
theorem fact14:((Rows.finishTiesRow.ifaces == (Tryz.f9.params.toList++((OpenSpec.ofChange Rows.finishTiesSpec).bare).plain.varTypes Tryz.pinned.checked.prog).any (Tryz.pinned.checked.prog.ifacesRec ·)))=true:=by kernel_rfl
theorem fact15:((Rows.finishTiesRow.mapsOut == Tryz.pinned.checked.prog.mapsAmong Tryz.f9.resultTypes.toList))=true:=by kernel_rfl
theorem fact16:((Rows.finishTiesRow.loops == (Tryz.f9.params.toList++((OpenSpec.ofChange Rows.finishTiesSpec).bare).plain.varTypes Tryz.pinned.checked.prog).any (Tryz.pinned.checked.prog.loopsFrom ·)))=true:=by kernel_rfl
theorem fact17:((Rows.finishTiesRow.wideKeys == (Tryz.f9.params.toList++((OpenSpec.ofChange Rows.finishTiesSpec).bare).plain.varTypes Tryz.pinned.checked.prog++Tryz.f9.resultTypes.toList).any (Tryz.pinned.checked.prog.wideKeysFrom ·)))=true:=by kernel_rfl
theorem fact18:(((OpenSpec.ofChange Rows.finishTiesSpec).bare).vars.all (Tryz.pinned.checked.prog.varReadable ·))=true:=by kernel_rfl
theorem fact19:(Tryz.f9.resultTypes.all (fun t=>Tryz.pinned.checked.prog.readableRec t && decide (t<Tryz.pinned.checked.prog.types.size)))=true:=by kernel_rfl
theorem fact20:((Rows.finishTiesRow.ifacesOut == Tryz.f9.resultTypes.toList.any (Tryz.pinned.checked.prog.ifacesRec ·)))=true:=by kernel_rfl
theorem fact21:((Rows.finishTiesRow.loopsOut == Tryz.f9.resultTypes.toList.any (Tryz.pinned.checked.prog.loopsFrom ·)))=true:=by kernel_rfl
theorem fact22:((Rows.finishTiesRow.plainKeys == Tryz.pinned.checked.prog.plainKeys))=true:=by kernel_rfl
theorem fact23:(Rows.finishTiesRow.shortTexts.isNone)=true:=by kernel_rfl
theorem fact24:(Tryz.pinned.checked.prog.stopsHeard)=true:=by kernel_rfl
theorem fact25:(Tryz.pinned.checked.prog.mayEnter)=true:=by kernel_rfl
theorem fact26:((Rows.finishTiesRow.lifted == Tryz.pinned.checked.prog.liftsFinal))=true:=by kernel_rfl
theorem fact27:((Tryz.pinned.checked.prog.make == some Rows.finishTiesRow.make))=true:=by kernel_rfl
theorem fact28:((Rows.finishTiesRow.kinds == (if Rows.finishTiesRow.domain.isEmpty then [] else Tryz.f9.params.toList.map fun t=>match Tryz.pinned.checked.prog.underlying t with|some (.int k)=>some k|_=>none)))=true:=by kernel_rfl
theorem fact29:((Rows.finishTiesRow.pinned == Rows.finishTiesRow.pinnedBy))=true:=by kernel_rfl
theorem fact30:((Rows.finishTiesRow.veiled == (Tryz.f9.params.toList++((OpenSpec.ofChange Rows.finishTiesSpec).bare).plain.varTypes Tryz.pinned.checked.prog++Tryz.f9.resultTypes.toList).any (Tryz.pinned.checked.prog.veiledRec ·)))=true:=by kernel_rfl
theorem fact31:(Rows.finishTiesRow.veiledFits Tryz.pinned.checked.prog Tryz.f9.params.toList (Tryz.f9.params.toList++((OpenSpec.ofChange Rows.finishTiesSpec).bare).plain.varTypes Tryz.pinned.checked.prog++Tryz.f9.resultTypes.toList))=true:=by kernel_rfl
set_option maxRecDepth 100000 in
theorem closed:joinedFacts Tryz.pinned.checked.prog 9 Tryz.f9 ((OpenSpec.ofChange Rows.finishTiesSpec).bare) Rows.finishTiesRow=true:=by
 unfold joinedFacts;exact(band (band (band (band (band (band (band (band (band (band (band (band (band (band (band (band (band (band (band (band (band (band (band (band (band (band (band (band (band (band (band fact0 fact1) fact2) fact3) fact4) fact5) fact6) fact7) fact8) fact9) fact10) fact11) fact12) fact13) fact14) fact15) fact16) fact17) fact18) fact19) fact20) fact21) fact22) fact23) fact24) fact25) fact26) fact27) fact28) fact29) fact30) fact31)
theorem named : Tryz.prog.funcNamed "stadion/stadionlaw05.FinishTies" = some 9 := by kernel_rfl
theorem wfText:Rows.finishTiesRow.wfByText (OpenSpec.ofChange Rows.finishTiesSpec)=true:=by kernel_rfl
theorem mainIs:Tryz.pinned.checked.prog.mainIs=some (Rows.finishTiesCard.stood.harness.1,Rows.finishTiesCard.stood.harness.2.toList):=by kernel_rfl
theorem looksT:true=Tryz.pinned.checked.prog.looks []:=by kernel_rfl
theorem goesF:false=Rows.finishTiesRow.goesBy Tryz.pinned.checked.prog:=by kernel_rfl
theorem noStand:([94].all fun u=>!Tryz.prog.wantsStandIn u)=true:=by kernel_rfl
theorem plain (f : FuncId)(fn : Func)(hf : Tryz.pinned.checked.prog.funcNamed "stadion/stadionlaw05.FinishTies" = some f)(hfn : Tryz.pinned.checked.prog.funcs[f]? = some fn) :
 true=Tryz.pinned.checked.prog.looks []/\∀(j:Nat) t,fn.params[j]? = some t->Tryz.pinned.checked.prog.wantsStandIn t=false:=by
 obtain rfl:f=9:=Option.some.inj (named.symm.trans hf) |>.symm;obtain rfl:fn=Tryz.f9:=(Option.some.inj (Tryz.func9.symm.trans hfn)).symm;refine⟨looksT,fun j t ht=>?_⟩;rw[Tryz.params9]at ht;have hm:t∈[94]:=by simpa using Array.mem_of_getElem? ht
 exact(show Tryz.prog.wantsStandIn t=false by simpa using List.all_eq_true.1 noStand t hm)
end Go.Proofs.YtmngppcmhfhgaaaGreatDoor.finishTies
