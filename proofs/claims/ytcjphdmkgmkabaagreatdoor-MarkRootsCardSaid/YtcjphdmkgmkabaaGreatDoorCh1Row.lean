/-
  Own work: what the rows of chapter 1 have in common: the laid table, a start that fits, the seat.
-/
import Derived.Test.YtcjphdmkgmkabaaGreatDoorCh1Awake
import Derived.Test.YtcjphdmkgmkabaaGreatDoorLib3
import Derived.Test.YtcjphdmkgmkabaaGreatDoorLib4
import Derived.Test.YtcjphdmkgmkabaaGreatDoorRows
import Derived.WalkKit
import Derived.ProofKit
import Derived.OpenShut
import Derived.Deep.DeepHandedRow
import Derived.Deep.DeepWitnessRowRef
import Derived.Lib.LaidTab
import Derived.LaidMore
import Derived.Stop.LaidErr
import Derived.MakeChecks
set_option maxHeartbeats 8000000
set_option maxRecDepth 20000
namespace Go.Ab.Ch1
open Go.Proofs Go.Proofs.YtcjphdmkgmkabaaGreatDoor Go.ChangeShapes Go.WideShapes Go.ChangeAt Go.RowKit
theorem own:ownKnob Tryz.prog.godebug=none:=by kernel_rfl
theorem Ga : Tryz.prog.globalNamed "internal/strconv.uint64pow10" = some 5 := by kernel_rfl
theorem QH:(Tryz.prog.globals[5]?).map (·.type)=some 325:=by kernel_rfl
theorem QI:Tryz.prog.underlying 325=some (.array 20 246):=by kernel_rfl
theorem QJ:Tryz.prog.underlying 246=some (.int .u64):=by kernel_rfl
theorem QK:Tryz.prog.cellsOf 246=1:=by kernel_rfl
theorem QL:Tryz.prog.cellsOf 325=20:=by kernel_rfl
theorem zH:Tryz.prog.underlying 3=some (.int .i64):=by kernel_rfl
theorem QM:Tryz.prog.underlying 4=some .bool:=by kernel_rfl
theorem aax:Tryz.prog.underlying 9=some .string:=by kernel_rfl
theorem laidOut:laidOutB Tryz.prog=true:=by kernel_rfl
def mi:List Int:=[1,10,100,1000,10000,100000,1000000,10000000,100000000,1000000000,10000000000,100000000000,1000000000000,10000000000000,100000000000000,1000000000000000,10000000000000000,100000000000000000,1000000000000000000,10000000000000000000]
theorem QN {W : World}(h : Lib.TabIs Tryz.prog W "internal/strconv.uint64pow10" .u64 mi) : ∀g v, gl g = some v -> V bare W v (.pointer (some ⟨g, 0, none⟩)) := by
 intro g v hg;unfold gl at hg;split at hg
 . rename_i hb;have hb':=Nat.eq_of_beq_eq_true hb;subst hb';obtain rfl:AV.vp (mi.map (AV.int .u64))=v:=Option.some.inj hg;refine V.vp 5 0 (fun i=>.int .u64 (mi.getD i 0)) (fun _=>⟨fun b d hb=>by simp[bare]at hb,fun hx=>hx⟩) (fun i hi=>?_) (fun i x hx=>?_)
   . rw[Nat.zero_add];exact h.cell Ga i (by simpa using hi)
   . rw[List.getElem?_map,Option.map_eq_some_iff]at hx;obtain⟨z,hz,rfl⟩:=hx;rw[show mi.getD i 0=z from by rw[List.getD_eq_getElem?_getD,hz];rfl];exact .int _ _
 . cases hg
theorem Gb:∀g v,gl g=some v->v.top=0:=by
 intro g v hg;unfold gl at hg;split at hg
 . cases hg;rfl
 . cases hg
theorem ju:iQ Tryz.prog gl FT:=⟨mixed,zG,Gb⟩
theorem QO {W : World}{a b : String × DataW Unit}{rest : List (String × DataW Unit)}(hp : ((a :: b :: ("internal/strconv.uint64pow10", Lib.tabData .u64 mi) :: rest).all fun x => x.2.handleName?.isNone) = true)
 (h : laidMetH Tryz.prog (a :: b :: ("internal/strconv.uint64pow10", Lib.tabData .u64 mi) :: rest) W) : Lib.TabIs Tryz.prog W "internal/strconv.uint64pow10" .u64 mi := by
 rw[MakeChecks.laidMetH_plain _ _ _ hp]at h;exact Lib.tabIs_of_head Ga QH QI QJ QK QL (laidMet.tail (laidMet.tail h))
def flat:DataW Unit->List Value
 | .agg l=>l.map fun
   | .lit (.int k z)=>Value.int k z
   | _=>.bool false
 | _=>[]
def QP:DataW Unit->List Value
 | .agg l=>l.flatMap flat
 | _=>[]
noncomputable def nP (os:Os):World:=
 let N:=(World.settled Tryz.prog os).heap.size
 let w0:=World.holding Tryz.prog os ⟨#[.cells #[.string ⟨#[118,97,108,117,101,32,111,117,116,32,111,102,32,114,97,110,103,101]⟩] 331,.cells #[.string ⟨#[105,110,118,97,108,105,100,32,115,121,110,116,97,120]⟩] 331],#[],[]⟩
 let put (h:Array Obj) (g:Nat) (cs:Array Value):Array Obj:=h.modify g fun
  | .cells _ t frozen=>.cells cs t frozen
  | o=>o
 let h1:=put w0.heap 4 #[.iface 329 (.pointer (some ⟨N,0,none⟩))]
 let h2:=put h1 3 #[.iface 329 (.pointer (some ⟨N+1,0,none⟩))]
 let h3:=put h2 5 (flat Rows.laid_internal_strconv_uint64pow10).toArray
 let h4:=put h3 6 (flat Rows.laid_unicode_utf8_first).toArray
 let h5:=put h4 7 (QP Rows.laid_unicode_utf8_acceptRanges).toArray
 let h6:=put h5 8 (flat Rows.laid_math_bits_deBruijn32tab).toArray
 let h7:=put h6 9 (flat Rows.laid_math_bits_deBruijn64tab).toArray
 { w0 with heap:=h7 }
theorem QQ (os:Os)(args:Array Value):laidMet Tryz.prog Rows.markShufflesRow.laid ((nP os).forCall (fun _ _=>0) ⟨#[],args,[]⟩).memory:=
 laidMet_of_run' 8 (by kernel_rfl) (by kernel_rfl)
end Go.Ab.Ch1
