/-
  Own work: Ro: the closed facts of its row, each by the kernel.
-/
import Derived.Test.YtmngppcmhfhgaaaGreatDoorRows
import Derived.Test.YtmngppcmhfhgaaaGreatDoorCards
import Derived.JoinedCond
import Derived.SevenTiedAt
import Derived.KernelRfl
set_option maxHeartbeats 8000000
set_option maxRecDepth 20000
namespace Go.Proofs.YtmngppcmhfhgaaaGreatDoor.finishRounds
open Go.ChangeShapes Go.WideShapes Go.ChangeAt
theorem band {a b:Bool}(h:a=true)(k:b=true):(a && b)=true:=by rw[h,k];rfl
theorem fact0:(Rows.finishRoundsRow.wf (OpenSpec.ofChange ((OpenSpec.ofChange Rows.finishRoundsSpec).bare)))=true:=by kernel_rfl
theorem fact1:(laidOutB Tryz.pinned.checked.prog)=true:=by kernel_rfl
theorem fact2:(mapsRowed Tryz.pinned.checked.prog)=true:=by kernel_rfl
theorem fact3:(Tryz.f8.params.all (Tryz.pinned.checked.prog.readableRec ·))=true:=by kernel_rfl
theorem fact4:(namedTie Tryz.pinned.checked.prog Rows.finishRoundsRow.named ((OpenSpec.ofChange Rows.finishRoundsSpec).bare).vars)=true:=by kernel_rfl
theorem fact5:((Rows.finishRoundsRow.stops == []))=true:=by kernel_rfl
theorem fact6:((Tryz.pinned.checked.prog.stops == []))=true:=by kernel_rfl
theorem fact7:((Rows.finishRoundsRow.knobs == []))=true:=by kernel_rfl
theorem fact8:((Tryz.pinned.checked.prog.stopKnobs == []))=true:=by kernel_rfl
theorem fact9:((Rows.finishRoundsRow.inPlace == Tryz.pinned.checked.prog.inPlace 8))=true:=by kernel_rfl
theorem fact10:((Rows.finishRoundsRow.unfollowed == Tryz.pinned.checked.prog.unfollowed 8))=true:=by kernel_rfl
theorem fact11:((Rows.finishRoundsRow.recurses == Tryz.pinned.checked.prog.recurses 8))=true:=by kernel_rfl
theorem fact12:((Rows.finishRoundsRow.named == Tryz.pinned.checked.prog.varsNamed 8))=true:=by kernel_rfl
theorem fact13:((Rows.finishRoundsRow.maps == (Tryz.f8.params.toList++((OpenSpec.ofChange Rows.finishRoundsSpec).bare).plain.varTypes Tryz.pinned.checked.prog).any (Tryz.pinned.checked.prog.mapsRec ·)))=true:=by kernel_rfl
theorem fact14:((Rows.finishRoundsRow.ifaces == (Tryz.f8.params.toList++((OpenSpec.ofChange Rows.finishRoundsSpec).bare).plain.varTypes Tryz.pinned.checked.prog).any (Tryz.pinned.checked.prog.ifacesRec ·)))=true:=by kernel_rfl
theorem fact15:((Rows.finishRoundsRow.mapsOut == Tryz.pinned.checked.prog.mapsAmong Tryz.f8.resultTypes.toList))=true:=by kernel_rfl
theorem fact16:((Rows.finishRoundsRow.loops == (Tryz.f8.params.toList++((OpenSpec.ofChange Rows.finishRoundsSpec).bare).plain.varTypes Tryz.pinned.checked.prog).any (Tryz.pinned.checked.prog.loopsFrom ·)))=true:=by kernel_rfl
theorem fact17:((Rows.finishRoundsRow.wideKeys == (Tryz.f8.params.toList++((OpenSpec.ofChange Rows.finishRoundsSpec).bare).plain.varTypes Tryz.pinned.checked.prog++Tryz.f8.resultTypes.toList).any (Tryz.pinned.checked.prog.wideKeysFrom ·)))=true:=by kernel_rfl
theorem fact18:(((OpenSpec.ofChange Rows.finishRoundsSpec).bare).vars.all (Tryz.pinned.checked.prog.varReadable ·))=true:=by kernel_rfl
theorem fact19:(Tryz.f8.resultTypes.all (fun t=>Tryz.pinned.checked.prog.readableRec t && decide (t<Tryz.pinned.checked.prog.types.size)))=true:=by kernel_rfl
theorem fact20:((Rows.finishRoundsRow.ifacesOut == Tryz.f8.resultTypes.toList.any (Tryz.pinned.checked.prog.ifacesRec ·)))=true:=by kernel_rfl
theorem fact21:((Rows.finishRoundsRow.loopsOut == Tryz.f8.resultTypes.toList.any (Tryz.pinned.checked.prog.loopsFrom ·)))=true:=by kernel_rfl
theorem fact22:((Rows.finishRoundsRow.plainKeys == Tryz.pinned.checked.prog.plainKeys))=true:=by kernel_rfl
theorem fact23:(Rows.finishRoundsRow.shortTexts.isNone)=true:=by kernel_rfl
theorem fact24:(Tryz.pinned.checked.prog.stopsHeard)=true:=by kernel_rfl
theorem fact25:(Tryz.pinned.checked.prog.mayEnter)=true:=by kernel_rfl
theorem fact26:((Rows.finishRoundsRow.lifted == Tryz.pinned.checked.prog.liftsFinal))=true:=by kernel_rfl
theorem fact27:((Tryz.pinned.checked.prog.make == some Rows.finishRoundsRow.make))=true:=by kernel_rfl
theorem fact28:((Rows.finishRoundsRow.kinds == (if Rows.finishRoundsRow.domain.isEmpty then [] else Tryz.f8.params.toList.map fun t=>match Tryz.pinned.checked.prog.underlying t with|some (.int k)=>some k|_=>none)))=true:=by kernel_rfl
theorem fact29:((Rows.finishRoundsRow.pinned == Rows.finishRoundsRow.pinnedBy))=true:=by kernel_rfl
theorem fact30:((Rows.finishRoundsRow.veiled == (Tryz.f8.params.toList++((OpenSpec.ofChange Rows.finishRoundsSpec).bare).plain.varTypes Tryz.pinned.checked.prog++Tryz.f8.resultTypes.toList).any (Tryz.pinned.checked.prog.veiledRec ·)))=true:=by kernel_rfl
theorem fact31:(Rows.finishRoundsRow.veiledFits Tryz.pinned.checked.prog Tryz.f8.params.toList (Tryz.f8.params.toList++((OpenSpec.ofChange Rows.finishRoundsSpec).bare).plain.varTypes Tryz.pinned.checked.prog++Tryz.f8.resultTypes.toList))=true:=by kernel_rfl
set_option maxRecDepth 100000 in
theorem closed:joinedFacts Tryz.pinned.checked.prog 8 Tryz.f8 ((OpenSpec.ofChange Rows.finishRoundsSpec).bare) Rows.finishRoundsRow=true:=by
 unfold joinedFacts;exact(band (band (band (band (band (band (band (band (band (band (band (band (band (band (band (band (band (band (band (band (band (band (band (band (band (band (band (band (band (band (band fact0 fact1) fact2) fact3) fact4) fact5) fact6) fact7) fact8) fact9) fact10) fact11) fact12) fact13) fact14) fact15) fact16) fact17) fact18) fact19) fact20) fact21) fact22) fact23) fact24) fact25) fact26) fact27) fact28) fact29) fact30) fact31)
theorem named : Tryz.prog.funcNamed "stadion/stadionlaw05.FinishRounds" = some 8 := by kernel_rfl
theorem wfText:Rows.finishRoundsRow.wfByText (OpenSpec.ofChange Rows.finishRoundsSpec)=true:=by kernel_rfl
theorem mainIs:Tryz.pinned.checked.prog.mainIs=some (Rows.finishRoundsCard.stood.harness.1,Rows.finishRoundsCard.stood.harness.2.toList):=by kernel_rfl
theorem looksT:true=Tryz.pinned.checked.prog.looks []:=by kernel_rfl
theorem goesF:false=Rows.finishRoundsRow.goesBy Tryz.pinned.checked.prog:=by kernel_rfl
theorem noStand:([44,88,76].all fun u=>!Tryz.prog.wantsStandIn u)=true:=by kernel_rfl
theorem plain (f : FuncId)(fn : Func)(hf : Tryz.pinned.checked.prog.funcNamed "stadion/stadionlaw05.FinishRounds" = some f)(hfn : Tryz.pinned.checked.prog.funcs[f]? = some fn) :
 true=Tryz.pinned.checked.prog.looks []/\∀(j:Nat) t,fn.params[j]? = some t->Tryz.pinned.checked.prog.wantsStandIn t=false:=by
 obtain rfl:f=8:=Option.some.inj (named.symm.trans hf) |>.symm;obtain rfl:fn=Tryz.f8:=(Option.some.inj (Tryz.func8.symm.trans hfn)).symm;refine⟨looksT,fun j t ht=>?_⟩;rw[Tryz.params8]at ht;have hm:t∈[44,88,76]:=by simpa using Array.mem_of_getElem? ht
 exact(show Tryz.prog.wantsStandIn t=false by simpa using List.all_eq_true.1 noStand t hm)
end Go.Proofs.YtmngppcmhfhgaaaGreatDoor.finishRounds
