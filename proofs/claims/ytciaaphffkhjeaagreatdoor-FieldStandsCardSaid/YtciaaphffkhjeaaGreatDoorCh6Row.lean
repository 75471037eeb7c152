/-
  Own work: what the rows of chapter 6 have in common: the laid table, a start that fits, the seat.
-/
import Derived.Test.YtciaaphffkhjeaaGreatDoorCh6Awake
import Derived.Test.YtciaaphffkhjeaaGreatDoorLib1
import Derived.Test.YtciaaphffkhjeaaGreatDoorLib2
import Derived.Test.YtciaaphffkhjeaaGreatDoorRows
import Derived.WalkKit
import Derived.ProofKit
import Derived.OpenShut
import Derived.Deep.DeepHandedRow
import Derived.Deep.DeepWitnessRowRef
import Derived.Lib.LaidTab
import Derived.LaidMore
import Derived.Stop.LaidErr
import Derived.MakeChecks
namespace Go.Ab.Ch6
open Go.Proofs Go.Proofs.YtciaaphffkhjeaaGreatDoor Go.ChangeShapes Go.WideShapes Go.ChangeAt Go.RowKit
theorem own:ownKnob Tryz.prog.godebug=none:=by kernel_rfl
theorem gTab : Tryz.prog.globalNamed "internal/strconv.uint64pow10" = some 7 := by kernel_rfl
theorem gTabType:(Tryz.prog.globals[7]?).map (·.type)=some 369:=by kernel_rfl
theorem und369:Tryz.prog.underlying 369=some (.array 20 282):=by kernel_rfl
theorem und282:Tryz.prog.underlying 282=some (.int .u64):=by kernel_rfl
theorem cells282:Tryz.prog.cellsOf 282=1:=by kernel_rfl
theorem cells369:Tryz.prog.cellsOf 369=20:=by kernel_rfl
theorem und3:Tryz.prog.underlying 3=some (.int .i64):=by kernel_rfl
theorem und4:Tryz.prog.underlying 4=some .bool:=by kernel_rfl
theorem und9:Tryz.prog.underlying 9=some .string:=by kernel_rfl
theorem laidOut:laidOutB Tryz.prog=true:=by kernel_rfl
def pow10:List Int:=[1,10,100,1000,10000,100000,1000000,10000000,100000000,1000000000,10000000000,100000000000,1000000000000,10000000000000,100000000000000,1000000000000000,10000000000000000,100000000000000000,1000000000000000000,10000000000000000000]
theorem gl_of_tab {W : World} (h : Lib.TabIs Tryz.prog W "internal/strconv.uint64pow10" .u64 pow10) : ∀ g v, gl g = some v → V bare W v (.pointer (some ⟨g, 0, none⟩)) := by
 intro g v hg
 unfold gl at hg
 split at hg
 · rename_i hb
   have hb':=Nat.eq_of_beq_eq_true hb
   subst hb'
   obtain rfl:AV.vp (pow10.map (AV.int .u64))=v:=Option.some.inj hg
   refine V.vp 7 0 (fun i=>.int .u64 (pow10.getD i 0)) (fun _=>⟨fun b d hb=>by simp [bare] at hb,fun hx=>hx⟩) (fun i hi=>?_) (fun i x hx=>?_)
   · rw [Nat.zero_add]
     exact h.cell gTab i (by simpa using hi)
   · rw [List.getElem?_map,Option.map_eq_some_iff] at hx
     obtain ⟨z,hz,rfl⟩:=hx
     rw [show pow10.getD i 0=z from by rw [List.getD_eq_getElem?_getD,hz];rfl]
     exact .int _ _
 · cases hg
theorem gl_top:∀ g v,gl g=some v→v.top=0:=by
 intro g v hg
 unfold gl at hg
 split at hg
 · cases hg;rfl
 · cases hg
theorem seat:Seat Tryz.prog gl FT:=⟨mixed,ftOK,gl_top⟩
theorem cells3:Tryz.prog.cellsOf 3=1:=by kernel_rfl
theorem tab_of_laid {W : World} {a b : String × DataW Unit} {rest : List (String × DataW Unit)} (hp : ((a :: b :: ("internal/strconv.uint64pow10", Lib.tabData .u64 pow10) :: rest).all fun x => x.2.handleName?.isNone) = true)
 (h : laidMetH Tryz.prog (a :: b :: ("internal/strconv.uint64pow10", Lib.tabData .u64 pow10) :: rest) W) : Lib.TabIs Tryz.prog W "internal/strconv.uint64pow10" .u64 pow10 := by
 rw [MakeChecks.laidMetH_plain _ _ _ hp] at h
 exact Lib.tabIs_of_head gTab gTabType und369 und282 cells282 cells369 (laidMet.tail (laidMet.tail h))
def flat:DataW Unit→List Value
 | .agg l=>l.map fun
   | .lit (.int k z)=>Value.int k z
   | _=>.bool false
 | _=>[]
def flat2:DataW Unit→List Value
 | .agg l=>l.flatMap flat
 | _=>[]
noncomputable def laidWorld (os:Os):World:=
 let N:=(World.settled Tryz.prog os).heap.size
 let w0:=World.holding Tryz.prog os ⟨#[.cells #[.string ⟨#[118,97,108,117,101,32,111,117,116,32,111,102,32,114,97,110,103,101]⟩] 355,.cells #[.string ⟨#[105,110,118,97,108,105,100,32,115,121,110,116,97,120]⟩] 355],#[],[]⟩
 let put (h:Array Obj) (g:Nat) (cs:Array Value):Array Obj:=h.modify g fun
  | .cells _ t frozen=>.cells cs t frozen
  | o=>o
 let h1:=put w0.heap 4 #[.iface 353 (.pointer (some ⟨N,0,none⟩))]
 let h2:=put h1 3 #[.iface 353 (.pointer (some ⟨N+1,0,none⟩))]
 let h3:=put h2 7 (flat Rows.laid_internal_strconv_uint64pow10).toArray
 let h4:=put h3 5 (flat Rows.laid_unicode_utf8_first).toArray
 let h5:=put h4 6 (flat2 Rows.laid_unicode_utf8_acceptRanges).toArray
 let h6:=put h5 8 (flat Rows.laid_math_bits_deBruijn32tab).toArray
 let h7:=put h6 9 (flat Rows.laid_math_bits_deBruijn64tab).toArray
 { w0 with heap:=h7 }
theorem laid_met (os:Os) (args:Array Value):laidMet Tryz.prog Rows.fieldChecksRow.laid ((laidWorld os).forCall (fun _ _=>0) ⟨#[],args,[]⟩).memory:=
 laidMet_of_run' 8 (by kernel_rfl) (by kernel_rfl)
theorem mach_ft {FT:FuncId→Option IFunc} {P:Program} {T:List (Nat×Spec)}:(mach P FT T).FT=FT:=rfl
theorem mach_ext {FT:FuncId→Option IFunc} {P:Program} {T:List (Nat×Spec)}:(mach P FT T).ext=extS T:=rfl
theorem calls_true {FT:FuncId→Option IFunc} {P:Program} {gl:Nat→Option AV} (hs:Seat P gl FT) {T:List (Nat×Spec)} (hT:ExtOK P gl (extS T)) {f:Nat} {xs:List AV} {w:World} (hr:Run (mach P FT T) f xs [] ⟨.bool true,[],[]⟩)
 (hgl:∀ g v,gl g=some v→V bare w v (.pointer (some ⟨g,0,none⟩))) {as':List Value} (hv:VL bare w xs as'):Calls P f as'.toArray w fun e w'=>e = .returned (.bool true)∧Below w.heap.size w w':=by
 obtain ⟨n,hn⟩:=hr
 refine (calls_of_run hs.mix hT hs.ft hn hgl hv).mono fun e w' he=>?_
 obtain ⟨v',h1,⟨ρ',h2⟩,h3⟩:=he
 cases h2
 exact ⟨h1,below_of h3⟩
end Go.Ab.Ch6
