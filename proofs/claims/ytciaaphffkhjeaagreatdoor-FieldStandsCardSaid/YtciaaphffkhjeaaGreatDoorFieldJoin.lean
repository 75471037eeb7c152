/-
  Own work: strings.Join at this program, by the kit's shelf: the one call of the fixed examples.
-/
import Derived.Test.YtciaaphffkhjeaaGreatDoorCh6E6
import Derived.Test.YtciaaphffkhjeaaGreatDoorLib2
import Derived.Shelf.Strings.OnBuilder
namespace Go.Ab.Ch6
open Go.Proofs Go.Shelf Go.RowKit
set_option maxRecDepth 1000000
def joinRen:Go.Shelf.Ren:=⟨fun|156=>105|165=>162|166=>163|169=>164|240=>200|241=>201|276=>238|277=>239|n=>n,fun|31=>22|9=>9|3=>3|4=>4|0=>0|20=>20|72=>243|76=>247|70=>240|37=>241|75=>246|127=>278|164=>298|5=>5|80=>249|n=>n,fun|n=>n⟩
theorem joinLays:Go.Proofs.Lays.n156 Tryz.prog joinRen:={
 mixed:=by kernel_rfl
 f156:=Tryz.func105.trans (congrArg some (by kernel_rfl))
 f165:=Tryz.func162.trans (congrArg some (by kernel_rfl))
 f166:=Tryz.func163.trans (congrArg some (by kernel_rfl))
 f169:=Tryz.func164.trans (congrArg some (by kernel_rfl))
 f240:=Tryz.func200.trans (congrArg some (by kernel_rfl))
 f241:=Tryz.func201.trans (congrArg some (by kernel_rfl))
 f276:=Tryz.func238.trans (congrArg some (by kernel_rfl))
 f277:=Tryz.func239.trans (congrArg some (by kernel_rfl))
 t0:=Tryz.underlying0
 a0:=Tryz.isAgg0
 z0:=Tryz.sizeOf0
 v0:=Tryz.zeroValue0
 t3:=Tryz.underlying3
 a3:=Tryz.isAgg3
 z3:=Tryz.sizeOf3
 v3:=Tryz.zeroValue3
 t4:=Tryz.underlying4
 a4:=Tryz.isAgg4
 z4:=Tryz.sizeOf4
 v4:=Tryz.zeroValue4
 t9:=Tryz.underlying9
 a9:=Tryz.isAgg9
 z9:=Tryz.sizeOf9
 v9:=Tryz.zeroValue9
 t20:=Tryz.underlying20
 a20:=Tryz.isAgg20
 z20:=Tryz.sizeOf20
 v20:=Tryz.zeroValue20
 t31:=Tryz.underlying22
 a31:=Tryz.isAgg22
 z31:=Tryz.sizeOf22
 v31:=Tryz.zeroValue22
 t37:=Tryz.underlying241
 a37:=Tryz.isAgg241
 z37:=Tryz.sizeOf241
 v37:=Tryz.zeroValue241
 t70:=Tryz.underlying240
 a70:=Tryz.isAgg240
 z70:=Tryz.sizeOf240
 v70:=Tryz.zeroValue240
 t72:=Tryz.underlying243
 a72:=Tryz.isAgg243
 z72:=Tryz.sizeOf243
 v72:=Tryz.zeroValue243
 t75:=Tryz.underlying246
 a75:=Tryz.isAgg246
 z75:=Tryz.sizeOf246
 v75:=Tryz.zeroValue246
 t76:=Tryz.underlying247
 a76:=Tryz.isAgg247
 z76:=Tryz.sizeOf247
 v76:=Tryz.zeroValue247
 t127:=Tryz.underlying278
 a127:=Tryz.isAgg278
 z127:=Tryz.sizeOf278
 v127:=Tryz.zeroValue278
 t164:=Tryz.underlying298
 a164:=Tryz.isAgg298
 z164:=Tryz.sizeOf298
 v164:=Tryz.zeroValue298 }
theorem joinExtra:Builder.Extra Tryz.prog joinRen:={
 sizeBuilder:=by kernel_rfl
 liesBuilder:=by kernel_rfl
 t5:=Tryz.underlying5
 a5:=Tryz.isAgg5
 z5:=Tryz.sizeOf5
 v5:=Tryz.zeroValue5
 infoByte:=by kernel_rfl
 cellsByte:=by kernel_rfl
 sizeByte:=by kernel_rfl
 neB5:=by decide }
theorem join_ok {h:Heap} {b:Nat} {xs:List (List UInt8)} {sep r:List UInt8} {e:TypeId} {cap:Option Nat} (hb:h.at b=some (.cells (strs xs) e)) (hne:xs≠[]) (hr:Lib.join xs sep=r) (hn:xs.length≤1000) (hl:r.length≤1000000) :
 EntHOK Tryz.prog gl ⟨105,[.sl b 0 xs.length 1 cap,.str sep],h,⟨.str r,h,[]⟩⟩:=by
 subst hr
 refine ent_of_calls (v':=.string ⟨(Lib.join xs sep).toArray⟩) Tryz.func105 (by kernel_rfl) (by kernel_rfl) (fun _ _=>.str _) (fun ρ w as' m hvl=>?_)
 obtain ⟨v0,l0,rfl,g0,hvl⟩:=hvl.cons_inv
 obtain ⟨v1,l1,rfl,g1,hvl⟩:=hvl.cons_inv
 obtain rfl:=hvl.nil_inv
 obtain rfl:=g1.str_inv
 obtain ⟨c,d,cp,rfl,k1,k2,k3⟩:=strs_cells m hb g0 hne
 have em:(xs.map fun x:List UInt8=>(⟨x.toArray⟩:ByteArray)).map (fun x:ByteArray=>x.data.toList)=xs:=by
  rw [List.map_map]
  exact List.map_id' xs
 have hj:=Any.strings_Join joinLays joinExtra c d cp (xs.map fun x=>⟨x.toArray⟩) ⟨sep.toArray⟩ w (fun j x hx=>by
  rw [List.getElem?_map,Option.map_eq_some_iff] at hx
  obtain ⟨y,hy,rfl⟩:=hx
  exact k3 j y hy) k2 (by rw [List.length_map];omega) (by rw [List.length_map];exact k1) (by rw [em];show (Lib.join xs sep).length≤_;omega)
 rw [em,List.length_map] at hj
 exact hj
theorem j37:EntHOK Tryz.prog gl e37:=join_ok (xs:=[[97,110,110,58],[111],[120,120,120],[124],[120],[111]]) rfl (by decide) (by decide) (by decide) (by decide)
end Go.Ab.Ch6
