/-
  Own work: what the rows of chapter 5 have in common: the laid table, a start that fits, the seat.
-/
import Derived.Test.YtmngppcmhfhgaaaGreatDoorCh5Awake
import Derived.Test.YtmngppcmhfhgaaaGreatDoorLib1
import Derived.Test.YtmngppcmhfhgaaaGreatDoorRows
import Derived.WalkKit
import Derived.ProofKit
import Derived.OpenShut
import Derived.Deep.DeepHandedRow
import Derived.Deep.DeepWitnessRowRef
import Derived.Lib.LaidTab
import Derived.LaidMore
import Derived.Stop.LaidErr
import Derived.MakeChecks
set_option maxHeartbeats 8000000
set_option maxRecDepth 20000
namespace Go.Ab.Ch5
open Go.Proofs Go.Proofs.YtmngppcmhfhgaaaGreatDoor Go.ChangeShapes Go.WideShapes Go.ChangeAt Go.RowKit
theorem own:ownKnob Tryz.prog.godebug=none:=by kernel_rfl
theorem Jh : Tryz.prog.globalNamed "internal/strconv.uint64pow10" = some 0 := by kernel_rfl
theorem Vj:(Tryz.prog.globals[0]?).map (·.type)=some 344:=by kernel_rfl
theorem Vk:Tryz.prog.underlying 344=some (.array 20 274):=by kernel_rfl
theorem Vl:Tryz.prog.underlying 274=some (.int .u64):=by kernel_rfl
theorem Vm:Tryz.prog.cellsOf 274=1:=by kernel_rfl
theorem Vn:Tryz.prog.cellsOf 344=20:=by kernel_rfl
theorem Ji:Tryz.prog.underlying 3=some (.int .i64):=by kernel_rfl
theorem Vo:Tryz.prog.underlying 4=some .bool:=by kernel_rfl
theorem ahK:Tryz.prog.underlying 9=some .string:=by kernel_rfl
theorem laidOut:laidOutB Tryz.prog=true:=by kernel_rfl
def pk:List Int:=[1,10,100,1000,10000,100000,1000000,10000000,100000000,1000000000,10000000000,100000000000,1000000000000,10000000000000,100000000000000,1000000000000000,10000000000000000,100000000000000000,1000000000000000000,10000000000000000000]
theorem Vp {W : World}(h : Lib.TabIs Tryz.prog W "internal/strconv.uint64pow10" .u64 pk) : ∀g v, gl g = some v -> V bare W v (.pointer (some ⟨g, 0, none⟩)) := by
 intro g v hg;unfold gl at hg;split at hg
 . rename_i hb;have hb':=Nat.eq_of_beq_eq_true hb;subst hb';obtain rfl:AV.vp (pk.map (AV.int .u64))=v:=Option.some.inj hg;refine V.vp 0 0 (fun i=>.int .u64 (pk.getD i 0)) (fun _=>⟨fun b d hb=>by simp[bare]at hb,fun hx=>hx⟩) (fun i hi=>?_) (fun i x hx=>?_)
   . rw[Nat.zero_add];exact h.cell Jh i (by simpa using hi)
   . rw[List.getElem?_map,Option.map_eq_some_iff]at hx;obtain⟨z,hz,rfl⟩:=hx;rw[show pk.getD i 0=z from by rw[List.getD_eq_getElem?_getD,hz];rfl];exact .int _ _
 . cases hg
theorem Jj:∀g v,gl g=some v->v.top=0:=by
 intro g v hg;unfold gl at hg;split at hg
 . cases hg;rfl
 . cases hg
theorem iu:kN Tryz.prog gl FT:=⟨mixed,Ds,Jj⟩
theorem Jk:Tryz.prog.cellsOf 3=1:=by kernel_rfl
theorem Vq:Tryz.prog.underlying 76=some (.slice 3):=by kernel_rfl
theorem ahL:Tryz.prog.underlying 77=some (.array 2 3):=by kernel_rfl
theorem ahM:Tryz.prog.cellsOf 77=2:=by kernel_rfl
theorem Vr {W : World}{a b : String × DataW Unit}{rest : List (String × DataW Unit)}(hp : ((a :: b :: ("internal/strconv.uint64pow10", Lib.tabData .u64 pk) :: rest).all fun x => x.2.handleName?.isNone) = true)
 (h : laidMetH Tryz.prog (a :: b :: ("internal/strconv.uint64pow10", Lib.tabData .u64 pk) :: rest) W) : Lib.TabIs Tryz.prog W "internal/strconv.uint64pow10" .u64 pk := by
 rw[MakeChecks.laidMetH_plain _ _ _ hp]at h;exact Lib.tabIs_of_head Jh Vj Vk Vl Vm Vn (laidMet.tail (laidMet.tail h))
def flat:DataW Unit->List Value
 | .agg l=>l.map fun
   | .lit (.int k z)=>Value.int k z
   | _=>.bool false
 | _=>[]
def Vs:DataW Unit->List Value
 | .agg l=>l.flatMap flat
 | _=>[]
noncomputable def pn (os:Os):World:=
 let N:=(World.settled Tryz.prog os).heap.size
 let w0:=World.holding Tryz.prog os ⟨#[.cells #[.string ⟨#[118,97,108,117,101,32,111,117,116,32,111,102,32,114,97,110,103,101]⟩] 374,.cells #[.string ⟨#[105,110,118,97,108,105,100,32,115,121,110,116,97,120]⟩] 374],#[],[]⟩
 let put (h:Array Obj) (g:Nat) (cs:Array Value):Array Obj:=h.modify g fun
  | .cells _ t frozen=>.cells cs t frozen
  | o=>o
 let h1:=put w0.heap 5 #[.iface 372 (.pointer (some ⟨N,0,none⟩))]
 let h2:=put h1 4 #[.iface 372 (.pointer (some ⟨N+1,0,none⟩))]
 let h3:=put h2 0 (flat Rows.laid_internal_strconv_uint64pow10).toArray
 let h4:=put h3 6 (flat Rows.laid_unicode_utf8_first).toArray
 let h5:=put h4 7 (Vs Rows.laid_unicode_utf8_acceptRanges).toArray
 let h6:=put h5 8 (flat Rows.laid_math_bits_deBruijn32tab).toArray
 let h7:=put h6 9 (flat Rows.laid_math_bits_deBruijn64tab).toArray
 { w0 with heap:=h7 }
theorem Jl (os:Os)(args:Array Value):laidMet Tryz.prog Rows.finishStartsRow.laid ((pn os).forCall (fun _ _=>0) ⟨#[],args,[]⟩).memory:=
 laidMet_of_run' 8 (by kernel_rfl) (by kernel_rfl)
theorem bN {FT:FuncId->Option dm}{P:Program}{T:List (Nat×Spec)}:(bD P FT T).FT=FT:=rfl
theorem gU {FT:FuncId->Option dm}{P:Program}{T:List (Nat×Spec)}:(bD P FT T).ext=bM T:=rfl
theorem Jm {FT:FuncId->Option dm}{P:Program}{gl:Nat->Option AV}(hs:kN P gl FT){T:List (Nat×Spec)}(hT:cW P gl (bM T)){f:Nat}{xs:List AV}{w:World}(hr:bm (bD P FT T) f xs [] ⟨.bool true,[],[]⟩)
 (hgl:∀g v,gl g=some v->V bare w v (.pointer (some ⟨g,0,none⟩))) {as':List Value} (hv:VL bare w xs as'):Calls P f as'.toArray w fun e w'=>e = .returned (.bool true)/\Below w.heap.size w w':=by
 obtain⟨n,hn⟩:=hr;refine(Ii hs.mix hT hs.ft hn hgl hv).mono fun e w' he=>?_
 obtain⟨v',h1,⟨ρ',h2⟩,h3⟩:=he;cases h2;exact⟨h1,Ij h3⟩
end Go.Ab.Ch5
