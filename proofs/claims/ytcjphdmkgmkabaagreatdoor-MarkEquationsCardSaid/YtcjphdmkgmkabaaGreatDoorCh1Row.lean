import Derived.Test.YtcjphdmkgmkabaaGreatDoorCh1Awake
import Derived.Test.YtcjphdmkgmkabaaGreatDoorRows
import Derived.ProofKit
import Derived.Deep.DeepHandedRow
import Derived.Deep.DeepWitnessRowRef
import Derived.Lib.LaidTab
import Derived.LaidMore
import Derived.Stop.LaidErr
import Derived.MakeChecks
set_option maxHeartbeats 8000000
set_option maxRecDepth 20000
namespace Go.Ab.Ch1
open Go.Proofs Go.Proofs.YtcjphdmkgmkabaaGreatDoor Go.ChangeShapes Go.WideShapes Go.ChangeAt Go.RowKit
theorem own:ownKnob Tryz.prog.godebug=none:=by kernel_rfl
theorem KM : Tryz.prog.globalNamed "internal/strconv.uint64pow10" = some 5 := by kernel_rfl
theorem XI:(Tryz.prog.globals[5]?).map (·.type)=some 325:=by kernel_rfl
theorem XJ:Tryz.prog.underlying 325=some (.array 20 246):=by kernel_rfl
theorem XL:Tryz.prog.underlying 246=some (.int .u64):=by kernel_rfl
theorem XM:Tryz.prog.cellsOf 246=1:=by kernel_rfl
theorem XO:Tryz.prog.cellsOf 325=20:=by kernel_rfl
theorem alB:Tryz.prog.underlying 3=some (.int .i64):=by kernel_rfl
theorem XP:Tryz.prog.underlying 4=some .bool:=by kernel_rfl
theorem alC:Tryz.prog.underlying 9=some .string:=by kernel_rfl
theorem laidOut:laidOutB Tryz.prog=true:=by kernel_rfl
def pD:List Int:=[1,10,100,1000,10000,100000,1000000,10000000,100000000,1000000000,10000000000,100000000000,1000000000000,10000000000000,100000000000000,1000000000000000,10000000000000000,100000000000000000,1000000000000000000,10000000000000000000]
theorem XQ {W : World}(h : Lib.TabIs Tryz.prog W "internal/strconv.uint64pow10" .u64 pD) : ∀g v, gl g = some v -> V bare W v (.pointer (some ⟨g, 0, none⟩)) := by
 intro g v hg;unfold gl at hg;split at hg
 . rename_i hb;have hb':=Nat.eq_of_beq_eq_true hb;subst hb';obtain rfl:AV.vp (pD.map (AV.int .u64))=v:=Option.some.inj hg;refine V.vp 5 0 (fun i=>.int .u64 (pD.getD i 0)) (fun _=>⟨fun b d hb=>by simp[bare]at hb,fun hx=>hx⟩) (fun i hi=>?_) (fun i x hx=>?_)
   . rw[Nat.zero_add];exact h.cell KM i (by simpa using hi)
   . rw[List.getElem?_map,Option.map_eq_some_iff]at hx;obtain⟨z,hz,rfl⟩:=hx;rw[show pD.getD i 0=z from by rw[List.getD_eq_getElem?_getD,hz];rfl];exact .int _ _
 . cases hg
theorem KN:∀g v,gl g=some v->v.top=0:=by
 intro g v hg;unfold gl at hg;split at hg
 . cases hg;rfl
 . cases hg
theorem pE:kG Tryz.prog gl FT:=⟨mixed,Ef,KN⟩
theorem XR {W : World}{a b : String × DataW Unit}{rest : List (String × DataW Unit)}(hp : ((a :: b :: ("internal/strconv.uint64pow10", Lib.tabData .u64 pD) :: rest).all fun x => x.2.handleName?.isNone) = true)
 (h : laidMetH Tryz.prog (a :: b :: ("internal/strconv.uint64pow10", Lib.tabData .u64 pD) :: rest) W) : Lib.TabIs Tryz.prog W "internal/strconv.uint64pow10" .u64 pD := by
 rw[MakeChecks.laidMetH_plain _ _ _ hp]at h;exact Lib.tabIs_of_head KM XI XJ XL XM XO (laidMet.tail (laidMet.tail h))
def flat:DataW Unit->List Value
 | .agg l=>l.map fun
   | .lit (.int k z)=>Value.int k z
   | _=>.bool false
 | _=>[]
def XS:DataW Unit->List Value
 | .agg l=>l.flatMap flat
 | _=>[]
noncomputable def rp (os:Os):World:=
 let N:=(World.settled Tryz.prog os).heap.size
 let w0:=World.holding Tryz.prog os ⟨#[.cells #[.string ⟨#[118,97,108,117,101,32,111,117,116,32,111,102,32,114,97,110,103,101]⟩] 331,.cells #[.string ⟨#[105,110,118,97,108,105,100,32,115,121,110,116,97,120]⟩] 331],#[],[]⟩
 let put (h:Array Obj) (g:Nat) (cs:Array Value):Array Obj:=h.modify g fun
  | .cells _ t frozen=>.cells cs t frozen
  | o=>o
 let h1:=put w0.heap 4 #[.iface 329 (.pointer (some ⟨N,0,none⟩))]
 let h2:=put h1 3 #[.iface 329 (.pointer (some ⟨N+1,0,none⟩))]
 let h3:=put h2 5 (flat Rows.laid_internal_strconv_uint64pow10).toArray
 let h4:=put h3 6 (flat Rows.laid_unicode_utf8_first).toArray
 let h5:=put h4 7 (XS Rows.laid_unicode_utf8_acceptRanges).toArray
 let h6:=put h5 8 (flat Rows.laid_math_bits_deBruijn32tab).toArray
 let h7:=put h6 9 (flat Rows.laid_math_bits_deBruijn64tab).toArray
 { w0 with heap:=h7 }
theorem XT (os:Os)(args:Array Value):laidMet Tryz.prog Rows.markShufflesRow.laid ((rp os).forCall (fun _ _=>0) ⟨#[],args,[]⟩).memory:=
 laidMet_of_run' 8 (by kernel_rfl) (by kernel_rfl)
end Go.Ab.Ch1
