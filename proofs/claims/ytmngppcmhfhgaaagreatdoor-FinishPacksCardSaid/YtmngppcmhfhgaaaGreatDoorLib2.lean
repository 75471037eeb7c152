/-
  Own work: more fuel gives the same; runs without fuel, and how they are put together.
-/
import Derived.Test.YtmngppcmhfhgaaaGreatDoorLib1
import Derived.WalkKit
import Derived.Carry
import Derived.OpenShut
import Derived.ChangeSame
import Derived.Test.YtmngppcmhfhgaaaGreatDoorLib0
import Derived.Laws.RangeString
import Derived.Lib.DecodeN
import Derived.Below
namespace Go.Ab
variable {ext : FuncId → List AV → Heap → Option HR} {inv : InvF} {FT : FuncId → Option IFunc}

/-- One way of calling gives all that another gives. -/
def CallLe (c c' : CallF) : Prop := ∀ g as h r, c g as h = some r → c' g as h = some r
def RunLe (r r' : ICode → StW → Option (Ex × StW)) : Prop := ∀ c s x, r c s = some x → r' c s = some x

theorem opA_le {c c' : CallF} (hc : CallLe c c') {s : St} {io : IOp} {q : HR} (h : opA c inv s io = some q) : opA c' inv s io = some q := by
  cases io <;> first | exact h | skip
  case call f as =>
    simp only [opA] at h ⊢
    split at h
    · exact hc _ _ _ _ h
    · cases h
  case invoke f name as =>
    simp only [opA] at h ⊢
    split at h
    · split at h
      · exact hc _ _ _ _ h
      · cases h
    · cases h

theorem opersA_le {c c' : CallF} (hc : CallLe c c') : ∀ (l : List IOper) (s s' : StW), opersA c inv l s = some s' → opersA c' inv l s = some s'
  | [], s, s', h => h
  | o :: l, s, s', h => by
    simp only [opersA] at h ⊢
    split at h
    · split at h
      · rename_i q hq
        simp only [opA_le hc hq]
        exact opersA_le hc l _ s' h
      · cases h
    · exact opersA_le hc l _ s' h
    · cases h

theorem drawA_le {c c' : CallF} (hc : CallLe c c') : ∀ (l : List (IOper × List Nat)) (s s' : StW) (ds : List Done), drawA c inv l s ds = some s' → drawA c' inv l s ds = some s'
  | [], s, s', ds, h => h
  | (o, un) :: l, s, s', ds, h => by
    simp only [drawA] at h ⊢
    split at h
    · split at h
      · rename_i hh
        cases ht : touchA s.s o.op with
        | none =>
          simp only [ht] at h ⊢
          simp only [if_true] at h ⊢
          split at h
          · rename_i q hq
            simp only [opA_le hc hq]
            split at h
            · rename_i hk; rw [if_pos hh]; simp only [hk, if_true]; exact drawA_le hc l _ s' _ h
            · cases h
          · cases h
        | some T =>
          simp only [ht] at h ⊢
          split at h
          · rename_i hd
            rw [if_pos hd]
            split at h
            · rename_i q hq
              simp only [opA_le hc hq]
              split at h
              · rename_i hk; rw [if_pos hh]; simp only [hk, if_true]; exact drawA_le hc l _ s' _ h
              · cases h
            · cases h
          · cases h
      · rename_i hh
        rw [if_neg hh]
        split at h
        · exact drawA_le hc l _ s' _ h
        · cases h
    · exact drawA_le hc l _ s' _ h
    · cases h

theorem callFT_le {r r' : ICode → StW → Option (Ex × StW)} (hr : RunLe r r') {f : FuncId} {all : List AV} {h : Heap} {q : HR} (hq : callFT r FT f all h = some q) : callFT r' FT f all h = some q := by
  unfold callFT at hq ⊢
  split at hq <;> try (cases hq; done)
  rename_i fi hfi
  split at hq <;> try (cases hq; done)
  rename_i hn
  rw [if_neg hn]
  split at hq <;> try (cases hq; done)
  rename_i e s hrun
  rw [hr _ _ _ hrun]
  exact hq

theorem callWith_le {r r' : ICode → StW → Option (Ex × StW)} (hr : RunLe r r') : CallLe (callWith r ext FT) (callWith r' ext FT) := by
  intro g as h q hq
  cases g <;> try (cases hq; done)
  rename_i f fi ca
  cases f <;> try (cases hq; done)
  · simp only [callWith] at hq ⊢
    split at hq
    · exact hq
    · exact callFT_le hr hq
  · cases fi <;> cases ca <;> try (cases hq; done)
    rename_i b
    change roundA r b as h = some q at hq
    change roundA r' b as h = some q
    unfold roundA at hq ⊢
    split at hq <;> try (cases hq; done)
    split at hq <;> try (cases hq; done)
    split at hq <;> try (cases hq; done)
    rename_i h3
    simp only [hr _ _ _ h3]
    split at hq <;> try (cases hq; done)
    rename_i h4
    split at hq <;> try (cases hq; done)
    rename_i h5
    simp only [hr _ _ _ h5]
    exact hq

theorem eval_le_succ : ∀ n, RunLe (evalC ext inv FT n) (evalC ext inv FT (n + 1)) := by
  intro n
  induction n with
  | zero => intro c s x h; cases h
  | succ n ih =>
    intro c s x h
    have hc : CallLe (callWith (evalC ext inv FT n) ext FT) (callWith (evalC ext inv FT (n + 1)) ext FT) := callWith_le ih
    cases c <;> first | exact h | skip
    case region ops =>
      rw [evalC] at h ⊢
      split at h
      · rename_i s1 h1; rw [opersA_le hc _ _ _ h1]; exact h
      · cases h
    case draw ops =>
      rw [evalC] at h ⊢
      split at h
      · rename_i s1 h1; rw [drawA_le hc _ _ _ _ h1]; exact h
      · cases h
    case seq a b =>
      rw [evalC] at h ⊢
      cases hr : evalC ext inv FT n a s with
      | none => rw [hr] at h; cases h
      | some p =>
        rw [ih _ _ _ hr]
        rw [hr] at h
        obtain ⟨e, s1⟩ := p
        cases e with
        | normal => exact ih _ _ _ h
        | exit _ => exact h
        | ret => exact h
    case cond t a b =>
      rw [evalC] at h ⊢
      split at h
      · exact ih _ _ _ h
      · cases h
    case block id a =>
      rw [evalC] at h ⊢
      cases hr : evalC ext inv FT n a s with
      | none => rw [hr] at h; cases h
      | some p =>
        rw [ih _ _ _ hr]
        rw [hr] at h
        exact h
    case loop a =>
      rw [evalC] at h ⊢
      cases hr : evalC ext inv FT n a s with
      | none => rw [hr] at h; cases h
      | some p =>
        rw [ih _ _ _ hr]
        rw [hr] at h
        obtain ⟨e, s1⟩ := p
        cases e with
        | normal => exact ih _ _ _ h
        | exit _ => exact h
        | ret => exact h
    case rangeFunc inner f ps a b =>
      rw [evalC] at h ⊢
      split at h
      · cases h
      · rename_i hi
        rw [if_neg hi]
        split at h
        · rename_i g l1 l2 hg
          simp only
          split at h
          · rename_i q hq
            simp only [callFT_le ih hq]
            exact h
          · cases h
        · cases h

theorem eval_le {n m : Nat} (h : n ≤ m) : RunLe (evalC ext inv FT n) (evalC ext inv FT m) := by
  induction h with
  | refl => exact fun _ _ _ h => h
  | step _ ih => exact fun c s x hx => eval_le_succ _ c s x (ih c s x hx)

end Go.Ab


/-
  Own work: from a run on the abstract machine to the kit's contract of a call.
-/
namespace Go.Ab
variable {P : Program} {gl : Nat → Option AV} {w : World} {ext : FuncId → List AV → Heap → Option HR} {FT : FuncId → Option IFunc}

/-- Nothing is the call's own yet. -/
def bare : Own := ⟨fun _ => .fresh, fun _ => False⟩

theorem mem_bare (hgl : ∀ g v, gl g = some v → V bare w v (.pointer (some ⟨g, 0, none⟩))) : Mem P gl bare [] w :=
  ⟨fun b o h => (by simp at h), fun _ _ => rfl, fun b b' c d d' h => (by cases h), fun b c d h => (by cases h), fun c h => False.elim h, fun b c d h => (by cases h), hgl⟩

/-- A function whose run on the abstract machine gives v. -/
theorem calls_of_run (hmix : P.follows .mixedOrders = true) (hext : ExtOK P gl ext) (hFT : FTOK P gl FT) {n : Nat} {f : FuncId} {as : List AV} {q : HR} (hq : callFT (evalC ext (invP P) FT n) FT f as [] = some q)
    (hgl : ∀ g v, gl g = some v → V bare w v (.pointer (some ⟨g, 0, none⟩))) {as' : List Value} (hv : VL bare w as as') :
    Calls P f as'.toArray w fun e w' => ∃ v', e = .returned v' ∧ (∃ ρ', V ρ' w' q.v v') ∧ w'.os = w.os ∧ w'.tape = w.tape ∧ w'.output = w.output ∧ w.heap.size ≤ w'.heap.size ∧ ∀ c, c < w.heap.size → w'.heap[c]? = w.heap[c]? := by
  obtain ⟨_, h2⟩ := callFT_ok (eval_ok hmix hext hFT n) hFT hq (mem_bare hgl) hv
  have h3 := callsIn_wide.1 h2
  refine h3.mono fun e w' he => ?_
  cases e with
  | returned v =>
    obtain ⟨ρ', hv', m', x⟩ := he
    exact ⟨v, rfl, ⟨ρ', hv'⟩, x.os, x.tape, x.output, x.size, fun c hc => x.old c hc fun b d hb => by cases hb⟩
  | panicked _ => exact he.elim
  | outgrown => exact he.elim
end Go.Ab


/-
  Own work: a law that answers true and leaves the old memory as it was: what its row says of the call's end.
-/
namespace Go.Ab
open Go.ChangeShapes Go.WideShapes Go.RowKit
variable {H : Type} {enc : TypeId × Value → H} {P : Program}

theorem below_of {W W' : World} (h : W'.os = W.os ∧ W'.tape = W.tape ∧ W'.output = W.output ∧ W.heap.size ≤ W'.heap.size ∧ ∀ c, c < W.heap.size → W'.heap[c]? = W.heap[c]?) : Below W.heap.size W W' :=
  ⟨h.1, h.2.1, h.2.2.1, h.2.2.2.1, h.2.2.2.2⟩

/-- The arguments read as they did. -/
theorem args_stay (hl : laidOutB P = true) {W W' : World} (hb : Below W.heap.size W W') : ∀ {ts : List TypeId} {vs : List Value} {ds : List (DataW H)} {ps : List MemPlace}, (∀ t ∈ ts, P.readableRec t = true ∧ t < P.types.size) →
    DataW.TrodAll enc P W 0 (fun _ => true) true ts vs ds ps → (∀ x ∈ ps, x.block < W.heap.size) → ∀ sp : Nat → Bool, (∀ p ∈ ps, sp p.block = true) → DataW.TrodAll enc P W' 0 sp true ts vs ds ps
  | [], vs, ds, ps, _, h, _, sp, _ => by obtain ⟨rfl, rfl, rfl⟩ := trodAll_nil h; exact trodAll_mk0
  | t :: ts, vs, ds, ps, ht, h, hlt, sp, hsp => by
    obtain ⟨v, vs', d, ds', p, q, rfl, rfl, rfl, h1, h2⟩ := trodAll_cons h
    obtain ⟨g1, g2⟩ := ht t (by simp)
    refine trodAll_cons_mk (WideElems.Trod_stays hl g1 g2 h1 (fun x hx => hb.same (hlt x (by simp [hx]))) (fun x hx => hsp x (by simp [hx]))) ?_
    exact args_stay hl hb (fun t ht' => ht t (by simp [ht'])) h2 (fun x hx => hlt x (by simp [hx])) sp fun x hx => hsp x (by simp [hx])

/-- The law's row: it answers true; the input reads as it did. -/
theorem law_post {f : Func} {s : ChangeSpec} {apart fresh handsOn again : Bool} {W W' : World} {args : Array Value} {ds gs : List (DataW H)} {before : List MemPlace} (hW : DataW.Whole enc P f.params.toList s.vars apart W args.toList ds gs before)
    (hl : laidOutB P = true) (ht : ∀ t ∈ f.params.toList, P.readableRec t = true ∧ t < P.types.size) (hvars : s.vars = []) (hb : Below W.heap.size W W')
    {bt : TypeId} (hbt : P.underlying bt = some .bool) (hrt : f.resultTypes = #[bt]) (h1 : (s.fn H (ds ++ gs)).results = [.lit (.bool true)]) (h2 : (s.fn H (ds ++ gs)).args = ds) (h3 : (s.fn H (ds ++ gs)).vars = []) :
    s.post enc P f apart fresh handsOn again W args (.bool true) W' := by
  have hlt : ∀ x ∈ before, x.block < W.heap.size := fun x hx => by simpa using hW.lt x hx
  have hold : ∀ p ∈ before, (fun b => decide (b < W.heap.size)) p.block = true := fun p hp => by simpa using hlt p hp
  have hW' := hW
  obtain ⟨p, q, hA, hV, hpq, hz, hn⟩ := hW'
  rw [hvars] at hV
  obtain ⟨hgs, hq⟩ := trodVars_none hV
  subst hq
  rw [List.append_nil] at hpq
  subst hpq
  have hargs := args_stay hl hb ht hA hlt
  have hargs' : ∀ sp : Nat → Bool, (∀ p ∈ before, sp p.block = true) → DataW.TrodAll enc P W' 0 sp true f.params.toList args.toList (s.fn H (ds ++ gs)).args before := by
    rw [h2]; exact hargs
  have hres : ∀ (b : Nat) (sp : Nat → Bool) (hd : Bool), DataW.TrodAll enc P W' b sp hd f.resultTypes.toList ((Value.bool true).resultList f.resultTypes.size) (s.fn H (ds ++ gs)).results [] := by
    intro b sp hd
    rw [h1, hrt]
    exact trodAll_cons_mk (shut_bool hbt true) trodAll_mk0
  have hvar : ∀ sp : Nat → Bool, DataW.TrodVars enc P W' sp s.vars (s.fn H (ds ++ gs)).vars [] := by
    intro sp; rw [hvars, h3]; rfl
  have hkept : W.keptBut W' (fun _ => False) := by
    refine ⟨hb.os, hb.output, fun i hi => ?_⟩
    have := (World.keptBut_refl W (fun _ => False)).2.2 i hi
    rw [hb.block i hi]
    exact this
  refine ⟨ds, gs, before, [], before, [], hW, hres _ _ _, hargs' _ hold, hvar _, World.keptBut_mono (fun p hp => hp.elim) hkept, fun _ => ?_⟩
  refine ⟨ok_one hrt rfl (okWide_bool_mk hbt true), _, _, ([] ++ before) ++ [], ⟨[] ++ before, [], trodAll_append (hargs' _ (fun _ _ => rfl)) (hres _ _ _), hvar _, rfl, ?_, ?_⟩, ?_⟩
  · intro b off hp
    have hp' : MemPlace.cell b off ∈ before := by simpa using hp
    have hlt' := hlt _ hp'
    rw [frozen_congr (w := W) (hb.block b hlt')]
    exact hz b off hp'
  · intro ha
    simpa using hn ha
  · intro p hp _
    simpa using hp
end Go.Ab


/-
  Own work: a call that was shown on the empty heap, of arguments that hold their contents: it holds on every heap, of arguments that lie in blocks of the caller's own; new blocks get the next numbers.
-/
namespace Go.Ab
variable {P : Program} {gl : Nat → Option AV} {ρ : Own} {w : World} {h : Heap}

mutual
/-- No view of anything. -/
def nov : AV → Bool
  | .vp l => l.isEmpty
  | .vs l _ _ => l.isEmpty
  | .fn _ a b => novL a && novL b
  | .iface _ v => nov v
  | .agg l => novL l
  | .tup l => novL l
  | _ => true
def novL : List AV → Bool
  | [] => true
  | v :: r => nov v && novL r
end
theorem novL_get : ∀ {l : List AV} {i : Nat} {x : AV}, novL l = true → l[i]? = some x → nov x = true
  | [], i, x, _, h => by simp at h
  | v :: r, 0, x, h, hx => by simp only [novL, Bool.and_eq_true] at h; simp at hx; subst hx; exact h.1
  | v :: r, i + 1, x, h, hx => by simp only [novL, Bool.and_eq_true] at h; simp at hx; exact novL_get h.2 hx

/-- The blocks ks become the blocks N, N + 1, ... -/
inductive Rn (ks : List Nat) (N : Nat) : AV → AV → Prop
  | same {v : AV} (ht : v.top = 0) : Rn ks N v v
  | sl {i b off len esz : Nat} {cap : Option Nat} (hi : ks[i]? = some b) : Rn ks N (.sl b off len esz cap) (.sl (N + i) off len esz cap)
  | ptr {i b off : Nat} (hi : ks[i]? = some b) : Rn ks N (.ptr b off) (.ptr (N + i) off)
  | map {i b : Nat} (hi : ks[i]? = some b) : Rn ks N (.map b) (.map (N + i))
  | vs {l l0 : List AV} {n : Nat} {cap : Option Nat} (hl : l.length = l0.length) (hg : ∀ (i : Nat) x y, l[i]? = some x → l0[i]? = some y → Rn ks N x y) : Rn ks N (.vs l n cap) (.vs l0 n cap)
  | agg {l l0 : List AV} (hl : l.length = l0.length) (hg : ∀ (i : Nat) x y, l[i]? = some x → l0[i]? = some y → Rn ks N x y) : Rn ks N (.agg l) (.agg l0)
  | tup {l l0 : List AV} (hl : l.length = l0.length) (hg : ∀ (i : Nat) x y, l[i]? = some x → l0[i]? = some y → Rn ks N x y) : Rn ks N (.tup l) (.tup l0)
  | fn {f : Fn} {fi fi0 ca ca0 : List AV} (hf : ∀ l, f ≠ .yield l) (h1 : fi.length = fi0.length) (h2 : ca.length = ca0.length) (g1 : ∀ (i : Nat) x y, fi[i]? = some x → fi0[i]? = some y → Rn ks N x y)
      (g2 : ∀ (i : Nat) x y, ca[i]? = some x → ca0[i]? = some y → Rn ks N x y) : Rn ks N (.fn f fi ca) (.fn f fi0 ca0)
def RnL (ks : List Nat) (N : Nat) (l l0 : List AV) : Prop := l.length = l0.length ∧ ∀ (i : Nat) x y, l[i]? = some x → l0[i]? = some y → Rn ks N x y

/-- Blocks that may be handed back: cells and maps. -/
inductive RnB (ks : List Nat) (N : Nat) : Blk → Blk → Prop
  | cells {l l0 : List AV} {e : TypeId} (h : RnL ks N l l0) : RnB ks N (.cells l e) (.cells l0 e)
  | map {es es0 : List (AV × AV)} (h1 : RnL ks N (es.map (·.1)) (es0.map (·.1))) (h2 : RnL ks N (es.map (·.2)) (es0.map (·.2))) : RnB ks N (.map es) (.map es0)
def novB : Blk → Bool
  | .cells l _ => novL l
  | .map es => novL (es.map (·.1)) && novL (es.map (·.2))
  | _ => true

theorem RnL.nil {ks : List Nat} {N : Nat} : RnL ks N [] [] := ⟨rfl, by simp⟩
theorem RnL.cons {ks : List Nat} {N : Nat} {x y : AV} {l m : List AV} (h1 : Rn ks N x y) (h2 : RnL ks N l m) : RnL ks N (x :: l) (y :: m) := by
  refine ⟨by simp [h2.1], fun i a b ha hb => ?_⟩
  cases i with
  | zero => simp at ha hb; subst ha; subst hb; exact h1
  | succ i => simp at ha hb; exact h2.2 i a b ha hb
theorem RnL.same {ks : List Nat} {N : Nat} {l : List AV} (ht : topL l = 0) : RnL ks N l l :=
  ⟨rfl, fun i x y hx hy => by rw [hx] at hy; cases hy; exact .same (by have := topL_le (n := 0) (by omega) i x hx; omega)⟩

/-- A value without blocks and views holds under any ownership. -/
theorem same_nov {ρ' ρ1 : Own} {a : AV} {v : Value} (ht : a.top = 0) (hn : nov a = true) (hv : V ρ' w a v) : V ρ1 w a v := by
  have key : ∀ {a v}, V ρ' w a v → a.top = 0 → nov a = true → V ρ1 w a v := by
    intro a v hv
    induction hv with
    | unk v => exact fun _ _ => .unk v
    | bool b => exact fun _ _ => .bool b
    | int k n => exact fun _ _ => .int k n
    | str s => exact fun _ _ => .str s
    | nilp => exact fun _ _ => .nilp
    | ptr o hb => exact fun h _ => by simp [AV.top] at h
    | ptrD o c o' hb => exact fun h _ => by simp [AV.top] at h
    | @vp l c o g hf hc _ ih => intro _ hn; simp only [nov, List.isEmpty_iff] at hn; subst hn; exact .vp c o g (fun h => absurd rfl h) (by simp) (by simp)
    | nilsl => exact fun _ _ => .nilsl
    | sl hb hl hcap hs => exact fun h _ => by simp [AV.top] at h
    | slN hb => exact fun h _ => by simp [AV.top] at h
    | slD c o' hb hl hcap => exact fun h _ => by simp [AV.top] at h
    | slND hb => exact fun h _ => by simp [AV.top] at h
    | @vs l len capC cap c o g hf hl hcap hc _ ih => intro _ hn; simp only [nov, List.isEmpty_iff] at hn; subst hn; exact .vs c o g (fun h => absurd rfl h) hl hcap (by simp) (by simp)
    | vsN hcap => exact fun _ _ => .vsN hcap
    | nilmap => exact fun _ _ => .nilmap
    | map hb => exact fun h _ => by simp [AV.top] at h
    | mapD v hb => exact fun h _ => by simp [AV.top] at h
    | yield hb => exact fun h _ => by simp [AV.top] at h
    | @fn f fi ca _ _ hf h1 h2 _ _ ih1 ih2 =>
      intro h hn
      have hh : topL fi ≤ 0 ∧ topL ca ≤ 0 := by
        cases f <;> simp only [AV.top] at h <;> exact ⟨by omega, by omega⟩
      simp only [nov, Bool.and_eq_true] at hn
      exact .fn hf h1 h2 (fun i x y a b => ih1 i x y a b (by have := topL_le hh.1 i x a; omega) (novL_get hn.1 a)) (fun i x y a b => ih2 i x y a b (by have := topL_le hh.2 i x a; omega) (novL_get hn.2 a))
    | fnD v hb => exact fun h _ => by simp [AV.top] at h
    | nilfn => exact fun _ _ => .nilfn
    | iface _ ih => exact fun h hn => .iface (ih (by simpa only [AV.top] using h) (by simpa only [nov] using hn))
    | niliface => exact fun _ _ => .niliface
    | agg hl _ ih => exact fun h hn => .agg hl (fun i x y a b => ih i x y a b (by have := topL_le (n := 0) (by simpa only [AV.top, Nat.le_zero] using h) i x a; omega) (novL_get (by simpa only [nov] using hn) a))
    | tup hl _ ih => exact fun h hn => .tup hl (fun i x y a b => ih i x y a b (by have := topL_le (n := 0) (by simpa only [AV.top, Nat.le_zero] using h) i x a; omega) (novL_get (by simpa only [nov] using hn) a))
  exact key hv ht hn

theorem Rn.view {ks : List Nat} {N : Nat} {ρ' ρ1 : Own} (hρ : ∀ (i b : Nat), ks[i]? = some b → ρ1 (N + i) = ρ' b) {a a1 : AV} (hr : Rn ks N a a1) :
    (nov a = true ∨ ∀ c, Free ρ' c → Free ρ1 c) → ∀ {v : Value}, V ρ' w a v → V ρ1 w a1 v := by
  induction hr with
  | @same a ht =>
    intro hF v hv
    rcases hF with hF | hF
    · exact same_nov ht hF hv
    · exact hv.transfer (n := 0) (fun b hb => by omega) hF (by omega)
  | sl hi =>
    intro _ v hv
    cases hv with
    | sl h1 h2 h3 h4 => exact .sl ((hρ _ _ hi).trans h1) h2 h3 h4
    | slN h1 => exact .slN ((hρ _ _ hi).trans h1)
    | slD c o' h1 h2 h3 => exact .slD c o' ((hρ _ _ hi).trans h1) h2 h3
    | slND h1 => exact .slND ((hρ _ _ hi).trans h1)
  | ptr hi =>
    intro _ v hv
    cases hv with
    | ptr _ h1 => exact .ptr _ ((hρ _ _ hi).trans h1)
    | ptrD _ _ _ h1 => exact .ptrD _ _ _ ((hρ _ _ hi).trans h1)
  | map hi =>
    intro _ v hv
    cases hv with
    | map h1 => exact .map ((hρ _ _ hi).trans h1)
    | mapD c h1 => exact .mapD c ((hρ _ _ hi).trans h1)
  | @vs l l0 n cap hl hg ih =>
    intro hF v hv
    cases hv with
    | vs c o g hf h2 h3 h4 h5 =>
      by_cases hn : l = []
      · subst hn
        have : l0 = [] := List.eq_nil_of_length_eq_zero (by simp at hl; omega)
        subst this
        exact .vs c o g (fun h => absurd rfl h) h2 h3 (by simp) (by simp)
      · have hF' : ∀ c, Free ρ' c → Free ρ1 c := by
          rcases hF with hF | hF
          · simp only [nov, List.isEmpty_iff] at hF; exact absurd hF hn
          · exact hF
        refine .vs c o g (fun _ => hF' _ (hf hn)) h2 h3 (fun i hi => h4 i (by omega)) (fun i y hy => ?_)
        have hi : i < l.length := by have := (List.getElem?_eq_some_iff.1 hy).1; omega
        exact ih i _ y (List.getElem?_eq_getElem hi) hy (.inr hF') (h5 i _ (List.getElem?_eq_getElem hi))
    | vsN hc =>
      have : l0 = [] := List.eq_nil_of_length_eq_zero (by simp at hl; omega)
      subst this
      exact .vsN hc
  | @agg l l0 hl hg ih =>
    intro hF v hv
    cases hv with
    | @agg _ mm h1 h2 =>
      refine .agg (by omega) fun i y z hy hz => ?_
      have hi : i < l.length := by have := (List.getElem?_eq_some_iff.1 hy).1; omega
      exact ih i _ y (List.getElem?_eq_getElem hi) hy (hF.imp (fun h => by simp only [nov] at h; exact novL_get h (List.getElem?_eq_getElem hi)) id) (h2 i _ z (List.getElem?_eq_getElem hi) hz)
  | @tup l l0 hl hg ih =>
    intro hF v hv
    cases hv with
    | @tup _ mm h1 h2 =>
      refine .tup (by omega) fun i y z hy hz => ?_
      have hi : i < l.length := by have := (List.getElem?_eq_some_iff.1 hy).1; omega
      exact ih i _ y (List.getElem?_eq_getElem hi) hy (hF.imp (fun h => by simp only [nov] at h; exact novL_get h (List.getElem?_eq_getElem hi)) id) (h2 i _ z (List.getElem?_eq_getElem hi) hz)
  | @fn f fi fi0 ca ca0 hf h1 h2 g1 g2 ih1 ih2 =>
    intro hF v hv
    cases hv with
    | fn hf' a1 a2 a3 a4 =>
      refine .fn hf (by omega) (by omega) (fun i y z hy hz => ?_) (fun i y z hy hz => ?_)
      · have hi : i < fi.length := by have := (List.getElem?_eq_some_iff.1 hy).1; omega
        exact ih1 i _ y (List.getElem?_eq_getElem hi) hy (hF.imp (fun h => by simp only [nov, Bool.and_eq_true] at h; exact novL_get h.1 (List.getElem?_eq_getElem hi)) id) (a3 i _ z (List.getElem?_eq_getElem hi) hz)
      · have hi : i < ca.length := by have := (List.getElem?_eq_some_iff.1 hy).1; omega
        exact ih2 i _ y (List.getElem?_eq_getElem hi) hy (hF.imp (fun h => by simp only [nov, Bool.and_eq_true] at h; exact novL_get h.2 (List.getElem?_eq_getElem hi)) id) (a4 i _ z (List.getElem?_eq_getElem hi) hz)
    | yield _ => exact absurd rfl (hf _)
    | fnD _ _ => exact absurd rfl (hf _)

/-- Own blocks, read in place: a slice or pointer becomes what it holds. -/
inductive Fr (h : Heap) (S : List Nat) : AV → AV → Prop
  | same {v : AV} (ht : v.top = 0) : Fr h S v v
  | nil {cap : Option Nat} (hc : ∀ n, cap = some n → n = 0) : Fr h S .nilsl (.vs [] 0 cap)
  | sl {b off len esz : Nat} {cap : Option Nat} {l m m0 : List AV} {e : TypeId} (hb : b ∈ S) (ha : h.at b = some (.cells l e)) (hc : cut l off (len * esz) = some m) (hl : m.length = m0.length)
      (hg : ∀ (i : Nat) x y, m[i]? = some x → m0[i]? = some y → Fr h S x y) : Fr h S (.sl b off len esz cap) (.vs m0 len cap)
  | ptr {b off : Nat} {l m0 : List AV} {e : TypeId} (hb : b ∈ S) (ha : h.at b = some (.cells l e)) (hl : (l.drop off).length = m0.length)
      (hg : ∀ (i : Nat) x y, (l.drop off)[i]? = some x → m0[i]? = some y → Fr h S x y) : Fr h S (.ptr b off) (.vp m0)
  | vs {l l0 : List AV} {n : Nat} {cap : Option Nat} (hl : l.length = l0.length) (hg : ∀ (i : Nat) x y, l[i]? = some x → l0[i]? = some y → Fr h S x y) : Fr h S (.vs l n cap) (.vs l0 n cap)
  | agg {l l0 : List AV} (hl : l.length = l0.length) (hg : ∀ (i : Nat) x y, l[i]? = some x → l0[i]? = some y → Fr h S x y) : Fr h S (.agg l) (.agg l0)
  | fn {f : Fn} {fi fi0 ca ca0 : List AV} (hf : ∀ l, f ≠ .yield l) (h1 : fi.length = fi0.length) (h2 : ca.length = ca0.length) (g1 : ∀ (i : Nat) x y, fi[i]? = some x → fi0[i]? = some y → Fr h S x y)
      (g2 : ∀ (i : Nat) x y, ca[i]? = some x → ca0[i]? = some y → Fr h S x y) : Fr h S (.fn f fi ca) (.fn f fi0 ca0)
def FrL (h : Heap) (S : List Nat) (l l0 : List AV) : Prop := l.length = l0.length ∧ ∀ (i : Nat) x y, l[i]? = some x → l0[i]? = some y → Fr h S x y

/-- The callee's view: it has no blocks; those of S are not anybody's; the others are the caller's. -/
def frz (ρ : Own) (S : List Nat) : Own := ⟨fun _ => .fresh, fun c => ρ.X c ∨ ∃ b d, ρ b = .live c d ∧ b ∉ S⟩

theorem Free.frz {c : Nat} (S : List Nat) (hf : Free ρ c) : Free (frz ρ S) c := by
  refine ⟨fun b d hb => by simp [Go.Ab.frz] at hb, ?_⟩
  rintro (hx | ⟨b, d, hb, _⟩)
  · exact hf.2 hx
  · exact hf.1 b d hb

theorem Fr.view (m : Mem P gl ρ h w) {S : List Nat} {a a0 : AV} (hr : Fr h S a a0) : ∀ {v : Value}, V ρ w a v → V (frz ρ S) w a0 v := by
  have hfree : ∀ {b c d}, b ∈ S → ρ b = .live c d → Free (frz ρ S) c := fun {b c d} hb hl => by
    refine ⟨fun b d hb => by simp [Go.Ab.frz] at hb, ?_⟩
    rintro (hx | ⟨b', d', hb', hn⟩)
    · exact m.xo _ _ _ hl hx
    · exact hn (m.inj _ _ _ _ _ hb' hl ▸ hb)
  have hat : ∀ {b o}, h.at b = some o → h[b]? = some (some o) := fun {b o} hb => by
    unfold Heap.at at hb
    cases hz : h[b]? with
    | none => rw [hz] at hb; cases hb
    | some z => rw [hz] at hb; simp only [Option.join_some] at hb; rw [hb]
  induction hr with
  | same ht => exact fun hv => hv.transfer (n := 0) (fun b hb => by omega) (fun c hc => hc.frz S) (by omega)
  | nil hc =>
    intro v hv
    cases hv
    exact .vsN hc
  | @sl b off len esz cap l m' m0 e hb ha hc hl hg ih =>
    intro v hv
    have hB := m.blk b _ (hat ha)
    have hcut : m'.length = len * esz ∧ ∀ i, i < m'.length → m'[i]? = l[off + i]? := by
      simp only [cut] at hc
      split at hc
      · rename_i hlen
        cases hc
        refine ⟨hlen, fun i hi => ?_⟩
        rw [List.getElem?_take, if_pos (by omega), List.getElem?_drop]
      · cases hc
    cases hv with
    | @sl _ c d _ _ _ capC _ h1 h2 h3 h4 =>
      rcases hB with ⟨c', d', cs, fr, g1, g2, g3, g4, g5⟩ | ⟨g1, _⟩
      · rw [h1] at g1; cases g1
        refine .vs c (off + d) (fun i => cs.getD (off + d + i) (.bool false)) (fun _ => hfree hb h1) h2 h3 (fun i hi => ?_) (fun i y hy => ?_)
        · have hi' : i < m'.length := by omega
          have hlt : off + i < l.length := by
            have := hcut.2 i hi'
            rw [List.getElem?_eq_getElem hi'] at this
            exact (List.getElem?_eq_some_iff.1 this.symm).1
          have : off + d + i < cs.size := by have := g3.1; omega
          simp only [World.cell?, g2]
          simp [this, Array.getD]
        · have hi : i < m0.length := (List.getElem?_eq_some_iff.1 hy).1
          have hi' : i < m'.length := by omega
          have hx := hcut.2 i hi'
          rw [List.getElem?_eq_getElem hi'] at hx
          have hlt : off + i < l.length := (List.getElem?_eq_some_iff.1 hx.symm).1
          have hs : off + d + i < cs.size := by have := g3.1; omega
          refine ih i m'[i] y (List.getElem?_eq_getElem hi') hy ?_
          refine g5 (off + i) _ _ hx.symm ?_
          rw [show off + i + d = off + d + i from by omega]
          simp [hs, Array.getD]
      · rw [h1] at g1; cases g1
    | @slN _ _ h1 =>
      rcases hB with ⟨c', d', cs, fr, g1, _⟩ | ⟨g1, g2⟩
      · rw [h1] at g1; cases g1
      · have : m0 = [] := List.eq_nil_of_length_eq_zero (by omega)
        subst this
        exact .vsN (by simp)
    | slD c o' h1 _ _ =>
      rcases hB with ⟨c', d', cs, fr, g1, _⟩ | ⟨g1, g2⟩ <;> (rw [h1] at g1; cases g1)
    | slND h1 =>
      rcases hB with ⟨c', d', cs, fr, g1, _⟩ | ⟨g1, g2⟩ <;> (rw [h1] at g1; cases g1)
  | @ptr b off l m0 e hb ha hl hg ih =>
    intro v hv
    have hB := m.blk b _ (hat ha)
    cases hv with
    | @ptr _ c d _ h1 =>
      rcases hB with ⟨c', d', cs, fr, g1, g2, g3, g4, g5⟩ | ⟨g1, _⟩
      · rw [h1] at g1; cases g1
        refine .vp c (off + d) (fun i => cs.getD (off + d + i) (.bool false)) (fun _ => hfree hb h1) (fun i hi => ?_) (fun i y hy => ?_)
        · have : off + d + i < cs.size := by have := g3.1; simp at hl; omega
          simp only [World.cell?, g2]
          simp [this, Array.getD]
        · have hi : i < m0.length := (List.getElem?_eq_some_iff.1 hy).1
          have hi' : i < (l.drop off).length := by omega
          have hlt : off + i < l.length := by simp at hi'; omega
          have hs : off + d + i < cs.size := by have := g3.1; omega
          refine ih i _ y (List.getElem?_eq_getElem hi') hy ?_
          refine g5 (off + i) _ _ (by rw [List.getElem_drop]; exact List.getElem?_eq_getElem hlt) ?_
          rw [show off + i + d = off + d + i from by omega]
          simp [hs, Array.getD]
      · rw [h1] at g1; cases g1
    | ptrD _ c o' h1 =>
      rcases hB with ⟨c', d', cs, fr, g1, _⟩ | ⟨g1, g2⟩ <;> (rw [h1] at g1; cases g1)
  | @vs l l0 n cap hl hg ih =>
    intro v hv
    cases hv with
    | vs c o g hf h2 h3 h4 h5 =>
      refine .vs c o g (fun hn => (hf fun e => ?_).frz S) h2 h3 (fun i hi => h4 i (by omega)) (fun i y hy => ?_)
      · subst e; exact hn (List.eq_nil_of_length_eq_zero (by simp at hl; omega))
      · have hi : i < l.length := by have := (List.getElem?_eq_some_iff.1 hy).1; omega
        exact ih i _ y (List.getElem?_eq_getElem hi) hy (h5 i _ (List.getElem?_eq_getElem hi))
    | vsN hc =>
      have : l0 = [] := List.eq_nil_of_length_eq_zero (by simp at hl; omega)
      subst this
      exact .vsN hc
  | @agg l l0 hl hg ih =>
    intro v hv
    cases hv with
    | @agg _ mm h1 h2 =>
      refine .agg (by omega) fun i y z hy hz => ?_
      have hi : i < l.length := by have := (List.getElem?_eq_some_iff.1 hy).1; omega
      exact ih i _ y (List.getElem?_eq_getElem hi) hy (h2 i _ z (List.getElem?_eq_getElem hi) hz)
  | @fn f fi fi0 ca ca0 hf h1 h2 g1 g2 ih1 ih2 =>
    intro v hv
    cases hv with
    | fn hf' a1 a2 a3 a4 =>
      refine .fn hf (by omega) (by omega) (fun i y z hy hz => ?_) (fun i y z hy hz => ?_)
      · have hi : i < fi.length := by have := (List.getElem?_eq_some_iff.1 hy).1; omega
        exact ih1 i _ y (List.getElem?_eq_getElem hi) hy (a3 i _ z (List.getElem?_eq_getElem hi) hz)
      · have hi : i < ca.length := by have := (List.getElem?_eq_some_iff.1 hy).1; omega
        exact ih2 i _ y (List.getElem?_eq_getElem hi) hy (a4 i _ z (List.getElem?_eq_getElem hi) hz)
    | yield _ => exact absurd rfl (hf _)
    | fnD _ _ => exact absurd rfl (hf _)

theorem FrL.view (m : Mem P gl ρ h w) {S : List Nat} {l l0 : List AV} (hr : FrL h S l l0) {vs : List Value} (hv : VL ρ w l vs) : VL (frz ρ S) w l0 vs :=
  ⟨by rw [← hr.1]; exact hv.1, fun i y z hy hz => by
    have hi : i < l.length := by have := (List.getElem?_eq_some_iff.1 hy).1; have := hr.1; omega
    exact (hr.2 i _ y (List.getElem?_eq_getElem hi) hy).view m (hv.2 i _ z (List.getElem?_eq_getElem hi) hz)⟩

theorem Mem.frz (hgl : ∀ g v, gl g = some v → v.top = 0) (m : Mem P gl ρ h w) (S : List Nat) : Mem P gl (frz ρ S) [] w := by
  refine ⟨fun b o hb => by simp at hb, fun b _ => rfl, ?_, ?_, ?_, ?_, fun g v hg => ?_⟩
  · intro b b' c d d' h1; simp [Go.Ab.frz] at h1
  · intro b c d h1; simp [Go.Ab.frz] at h1
  · rintro c (hc | ⟨b, d, hb, _⟩)
    · exact m.xb c hc
    · exact m.bound b c d hb
  · intro b c d h1; simp [Go.Ab.frz] at h1
  · exact (m.gl g v hg).transfer (n := 0) (fun b hb => by omega) (fun c hc => hc.frz S) (by rw [hgl g v hg]; exact Nat.le_refl _)

/-- What the callee did on its own heap, seen by the caller: the blocks ks of it are handed back. -/
theorem did_view (m : Mem P gl ρ h w) {S ks : List Nat} {v v1 : AV} {hh : Heap} {bs : List Blk} {v' : Value} {w' : World} (hnd : ks.Nodup) (hv1 : Rn ks h.length v v1) (hlen : ks.length = bs.length)
    (hbs : ∀ (i b : Nat) o1, ks[i]? = some b → bs[i]? = some o1 → ∃ o, hh.at b = some o ∧ RnB ks h.length o o1 ∧ (S = [] ∨ novB o = true)) (hn : S = [] ∨ nov v = true) (hd : Did P gl (frz ρ S) [] w ⟨v, hh, []⟩ v' w') :
    Did P gl ρ h w ⟨v1, h ++ bs.map some, []⟩ v' w' := by
  obtain ⟨ρ', hv, m', x⟩ := hd
  have old : ∀ c, c < w.heap.size → w'.heap[c]? = w.heap[c]? := fun c hc => x.old c hc fun b d hb => by simp [Go.Ab.frz] at hb
  have new : ∀ b c d, ρ' b = .live c d → w.heap.size ≤ c := fun b c d hb => by
    rcases Nat.lt_or_ge c w.heap.size with hc | hc
    · rcases x.back b c d hb hc with h1 | ⟨b0, d0, h1, _⟩ <;> simp [Go.Ab.frz] at h1
    · exact hc
  have hat : ∀ {b o}, hh.at b = some o → hh[b]? = some (some o) := fun {b o} hb => by
    unfold Heap.at at hb
    cases hz : hh[b]? with
    | none => rw [hz] at hb; cases hb
    | some z => rw [hz] at hb; simp only [Option.join_some] at hb; rw [hb]
  let ρ1 : Own := ⟨fun b => if b < h.length then ρ b else match ks[b - h.length]? with | some k => ρ' k | none => .fresh, ρ.X⟩
  have hlt : ∀ b, b < h.length → ρ1 b = ρ b := fun b hb => by show (if _ then _ else _) = _; rw [if_pos hb]
  have hge : ∀ (i k : Nat), ks[i]? = some k → ρ1 (h.length + i) = ρ' k := fun i k hk => by show (if _ then _ else _) = _; rw [if_neg (by omega)]; simp [hk]
  have hback : ∀ b c d, h.length ≤ b → ρ1 b = .live c d → ∃ k : Nat, ks[b - h.length]? = some k ∧ ρ' k = .live c d := fun b c d hb hl => by
    have : ρ1 b = match ks[b - h.length]? with | some k => ρ' k | none => .fresh := by show (if _ then _ else _) = _; rw [if_neg (by omega)]
    rw [this] at hl
    cases hk : ks[b - h.length]? with
    | none => rw [hk] at hl; cases hl
    | some k => rw [hk] at hl; exact ⟨k, rfl, hl⟩
  have hfr : ∀ b, ρ b ≠ .fresh → b < h.length := fun b hb => by
    rcases Nat.lt_or_ge b h.length with h1 | h1
    · exact h1
    · exact absurd (m.fresh b h1) hb
  have E : Ext h (h ++ bs.map some) ρ ρ1 w w' := by
    refine ⟨x.os, x.tape, x.output, x.size, by simp, rfl, ?_, ?_, ?_, ?_, ?_, ?_, ?_, x.shape⟩
    · intro b hb
      have := (List.getElem?_eq_some_iff.1 hb).1
      rw [List.getElem?_append_left this]; exact hb
    · intro b hb
      exact hlt b (List.getElem?_eq_some_iff.1 hb).1
    · intro b c d hb
      exact .inl ((hlt b (hfr b (by rw [hb]; simp))).trans hb)
    · intro b hb
      exact (hlt b (hfr b (by rw [hb]; simp))).trans hb
    · intro b hb
      exact .inl ((hlt b (hfr b (by rw [hb]; simp))).trans hb)
    · intro c hc _; exact old c hc
    · intro b c d hb hc
      rcases Nat.lt_or_ge b h.length with h1 | h1
      · rw [hlt b h1] at hb; exact .inl hb
      · obtain ⟨k, _, hk⟩ := hback b c d h1 hb
        have := new _ _ _ hk
        omega
  have hF : S = [] → ∀ c, Free ρ' c → Free ρ1 c := by
    intro hS c hc
    have hX : ρ'.X = (frz ρ S).X := x.X
    have h2 := hc.2
    rw [hX] at h2
    refine ⟨fun b d hb => ?_, fun hx => h2 (.inl hx)⟩
    rcases Nat.lt_or_ge b h.length with h1 | h1
    · rw [hlt b h1] at hb
      exact h2 (.inr ⟨b, d, hb, by rw [hS]; simp⟩)
    · obtain ⟨k, _, hk⟩ := hback b c d h1 hb
      exact hc.1 _ _ hk
  have hvs : ∀ {a a1 : AV} {u : Value}, (S = [] ∨ nov a = true) → Rn ks h.length a a1 → V ρ' w' a u → V ρ1 w' a1 u := fun {a a1 u} hc hr hu =>
    hr.view hge (hc.elim (fun h => .inr (hF h)) .inl) hu
  refine ⟨ρ1, hvs hn hv1 hv, m.ext E ?_ ?_ ?_ ?_, E⟩
  · intro b o hb
    rcases Nat.lt_or_ge b h.length with h1 | h1
    · rw [List.getElem?_append_left h1] at hb
      exact (m.blk b o hb).mono E (hlt b h1) fun c d hl => old c (m.bound b c d hl)
    · rw [List.getElem?_append_right h1] at hb
      obtain ⟨o1, hq, rfl⟩ : ∃ o1, bs[b - h.length]? = some o1 ∧ o1 = o := by simpa using hb
      have hi : b - h.length < ks.length := by have := (List.getElem?_eq_some_iff.1 hq).1; omega
      have hk : ks[b - h.length]? = some ks[b - h.length] := List.getElem?_eq_getElem hi
      obtain ⟨o, ho, hB, hnb⟩ := hbs _ _ _ hk hq
      have hB' := m'.blk _ _ (hat ho)
      have hb1 : ρ1 b = ρ' ks[b - h.length] := by have := hge _ _ hk; rwa [show h.length + (b - h.length) = b from by omega] at this
      cases hB with
      | @cells l l0 e hl =>
        rcases hB' with ⟨c, d, cs, fr, g1, g2, g3, g4, g5⟩ | ⟨g1, g2⟩
        · refine .inl ⟨c, d, cs, fr, hb1.trans g1, g2, ⟨by have := hl.1; have := g3.1; omega, fun he => ⟨(g3.2 he).1, by have := hl.1; have := (g3.2 he).2; omega⟩⟩, g4, fun i y z hy hz => ?_⟩
          have hi : i < l.length := by have := (List.getElem?_eq_some_iff.1 hy).1; have := hl.1; omega
          exact hvs (hnb.imp id fun hh' => novL_get hh' (List.getElem?_eq_getElem hi)) (hl.2 i _ y (List.getElem?_eq_getElem hi) hy) (g5 i _ z (List.getElem?_eq_getElem hi) hz)
        · refine .inr ⟨hb1.trans g1, ?_⟩
          have := hl.1
          rw [g2] at this
          exact List.eq_nil_of_length_eq_zero (by simp at this; omega)
      | @map es es0 hl1 hl2 =>
        obtain ⟨c, ms, clk, g1, g2, g3, g4⟩ := hB'
        have hle : es.length = es0.length := by have := hl1.1; simpa using this
        refine ⟨c, ms, clk, hb1.trans g1, g2, by omega, fun i kx vx mm hx hm => ?_⟩
        have hi : i < es.length := by have := (List.getElem?_eq_some_iff.1 hx).1; omega
        have he : es[i]? = some (es[i].1, es[i].2) := List.getElem?_eq_getElem hi
        obtain ⟨q1, q2⟩ := g4 i _ _ mm he hm
        have r1 := hl1.2 i es[i].1 kx (by simp [he]) (by simp [hx])
        have r2 := hl2.2 i es[i].2 vx (by simp [he]) (by simp [hx])
        have hnn : S = [] ∨ (nov es[i].1 = true ∧ nov es[i].2 = true) := hnb.imp id fun hh' => by
          simp only [novB, Bool.and_eq_true] at hh'
          exact ⟨novL_get hh'.1 (i := i) (by simp [he]), novL_get hh'.2 (i := i) (by simp [he])⟩
        exact ⟨hvs (hnn.imp id (·.1)) r1 q1, hvs (hnn.imp id (·.2)) r2 q2⟩
  · intro b hb
    simp at hb
    show (if _ then _ else _) = _
    rw [if_neg (by omega), List.getElem?_eq_none (by omega)]
  · intro b b' c d d' h1 h2
    rcases Nat.lt_or_ge b h.length with hb | hb <;> rcases Nat.lt_or_ge b' h.length with hb' | hb'
    · rw [hlt b hb] at h1; rw [hlt b' hb'] at h2; exact m.inj _ _ _ _ _ h1 h2
    · obtain ⟨k, _, hk⟩ := hback _ _ _ hb' h2
      rw [hlt b hb] at h1
      have := m.bound _ _ _ h1; have := new _ _ _ hk; omega
    · obtain ⟨k, _, hk⟩ := hback _ _ _ hb h1
      rw [hlt b' hb'] at h2
      have := m.bound _ _ _ h2; have := new _ _ _ hk; omega
    · obtain ⟨k, e1, hk⟩ := hback _ _ _ hb h1
      obtain ⟨k', e2, hk'⟩ := hback _ _ _ hb' h2
      have := m'.inj _ _ _ _ _ hk hk'
      subst this
      obtain ⟨l1, q1⟩ := List.getElem?_eq_some_iff.1 e1
      obtain ⟨l2, q2⟩ := List.getElem?_eq_some_iff.1 e2
      have := (List.getElem_inj hnd).1 (q1.trans q2.symm)
      omega
  · intro b c d hb
    rcases Nat.lt_or_ge b h.length with h1 | h1
    · rw [hlt b h1] at hb
      exact Nat.lt_of_lt_of_le (m.bound _ _ _ hb) x.size
    · obtain ⟨k, _, hk⟩ := hback _ _ _ h1 hb
      exact m'.bound _ _ _ hk

/-- A call shown on the empty heap, of arguments as contents, on every heap. -/
theorem ent_view (hgl : ∀ g v, gl g = some v → v.top = 0) {f : Nat} {as as0 : List AV} {v v1 : AV} {hh : Heap} {bs : List Blk} {S ks : List Nat} (hr : FrL h S as as0) (hnd : ks.Nodup) (hv1 : Rn ks h.length v v1) (hlen : ks.length = bs.length)
    (hbs : ∀ (i b : Nat) o1, ks[i]? = some b → bs[i]? = some o1 → ∃ o, hh.at b = some o ∧ RnB ks h.length o o1 ∧ (S = [] ∨ novB o = true)) (hn : S = [] ∨ nov v = true)
    (hloc : EntHOK P gl ⟨f, as0, [], ⟨v, hh, []⟩⟩) : EntHOK P gl ⟨f, as, h, ⟨v1, h ++ bs.map some, []⟩⟩ := by
  refine ⟨wr_app _ _ _, fun ρ w as' m hl => ?_⟩
  obtain ⟨nx, w1, h1, h2⟩ := hloc.2 (frz ρ S) w as' (m.frz hgl S) (hr.view m hl)
  exact ⟨nx, w1, h1, h2.mono fun v w' hd => did_view m hnd hv1 hlen hbs hn hd⟩
end Go.Ab


/-
  Own work: a calculus of runs on the abstract machine: what holds behind a piece of code, without fuel.
-/
namespace Go.Ab

/-- The machine: functions known by their contracts, methods, the table of functions. -/
structure Mach where
  ext : FuncId → List AV → Heap → Option HR
  inv : InvF
  FT : FuncId → Option IFunc

abbrev Mach.ev (M : Mach) (n : Nat) := evalC M.ext M.inv M.FT n
abbrev Mach.call (M : Mach) (n : Nat) := callWith (M.ev n) M.ext M.FT

/-- The code runs to an end of which Q holds. -/
structure W (M : Mach) (c : ICode) (s : StW) (Q : Ex → StW → Prop) : Prop where
  out : ∃ n e s', M.ev n c s = some (e, s') ∧ Q e s'
structure WO (M : Mach) (l : List IOper) (s : StW) (Q : StW → Prop) : Prop where
  out : ∃ n s', opersA (M.call n) M.inv l s = some s' ∧ Q s'
structure WD (M : Mach) (l : List (IOper × List Nat)) (s : StW) (ds : List Done) (Q : StW → Prop) : Prop where
  out : ∃ n s', drawA (M.call n) M.inv l s ds = some s' ∧ Q s'
structure WC (M : Mach) (g : AV) (as : List AV) (h : Heap) (Q : HR → Prop) : Prop where
  out : ∃ n r, M.call n g as h = some r ∧ Q r
/-- A function, called on a heap, gives r. -/
def Run (M : Mach) (f : FuncId) (as : List AV) (h : Heap) (r : HR) : Prop := ∃ n, callFT (M.ev n) M.FT f as h = some r

variable {M : Mach}

theorem ev_up {n m : Nat} (h : n ≤ m) {c : ICode} {s : StW} {x : Ex × StW} (hx : M.ev n c s = some x) : M.ev m c s = some x := eval_le h c s x hx
theorem call_up {n m : Nat} (h : n ≤ m) : CallLe (M.call n) (M.call m) := callWith_le (eval_le h)

theorem W.mono {c : ICode} {s : StW} {Q R : Ex → StW → Prop} (h : W M c s Q) (hr : ∀ e s', Q e s' → R e s') : W M c s R := by
  obtain ⟨⟨n, e, s', h1, h2⟩⟩ := h; exact ⟨⟨n, e, s', h1, hr _ _ h2⟩⟩
theorem WO.mono {l : List IOper} {s : StW} {Q R : StW → Prop} (h : WO M l s Q) (hr : ∀ s', Q s' → R s') : WO M l s R := by
  obtain ⟨⟨n, s', h1, h2⟩⟩ := h; exact ⟨⟨n, s', h1, hr _ h2⟩⟩

/-- What must hold behind the first of two pieces; behind a block's body; behind a loop's. -/
structure SQ (M : Mach) (b : ICode) (Q : Ex → StW → Prop) (e : Ex) (s : StW) : Prop where
  out : match e with
    | .normal => W M b s Q
    | e => Q e s
structure BQ (id : Nat) (Q : Ex → StW → Prop) (e : Ex) (s : StW) : Prop where
  out : match e with
    | .exit i => if i = id then Q .normal s else Q (.exit i) s
    | e => Q e s
structure LQ (M : Mach) (c : ICode) (Q : Ex → StW → Prop) (e : Ex) (s : StW) : Prop where
  out : match e with
    | .normal => W M (.loop c) s Q
    | e => Q e s

theorem W.skip {s : StW} {Q : Ex → StW → Prop} (h : Q .normal s) : W M .skip s Q := ⟨⟨1, .normal, s, rfl, h⟩⟩
theorem W.ret {s : StW} {Q : Ex → StW → Prop} (h : Q .ret s) : W M .ret s Q := ⟨⟨1, .ret, s, rfl, h⟩⟩
theorem W.exit {s : StW} {i : Nat} {Q : Ex → StW → Prop} (h : Q (.exit i) s) : W M (.exit i) s Q := ⟨⟨1, .exit i, s, rfl, h⟩⟩

theorem W.seq {a b : ICode} {s : StW} {Q : Ex → StW → Prop} (h : W M a s (SQ M b Q)) : W M (.seq a b) s Q := by
  obtain ⟨⟨n, e, s1, h1, ⟨h2⟩⟩⟩ := h
  cases e with
  | normal =>
    obtain ⟨⟨m, e, s2, h3, h4⟩⟩ := h2
    refine ⟨⟨max n m + 1, e, s2, ?_, h4⟩⟩
    show evalC _ _ _ _ _ _ = _
    rw [evalC, show evalC M.ext M.inv M.FT (max n m) _ s = _ from ev_up (Nat.le_max_left n m) h1]
    exact ev_up (Nat.le_max_right n m) h3
  | exit i => refine ⟨⟨n + 1, .exit i, s1, ?_, h2⟩⟩; show evalC _ _ _ _ _ _ = _; rw [evalC, show evalC _ _ _ n a s = _ from h1]
  | ret => refine ⟨⟨n + 1, .ret, s1, ?_, h2⟩⟩; show evalC _ _ _ _ _ _ = _; rw [evalC, show evalC _ _ _ n a s = _ from h1]

theorem W.block {id : Nat} {c : ICode} {s : StW} {Q : Ex → StW → Prop} (h : W M c s (BQ id Q)) : W M (.block id c) s Q := by
  obtain ⟨⟨n, e, s1, h1, ⟨h2⟩⟩⟩ := h
  have h1' : evalC M.ext M.inv M.FT n c s = some (e, s1) := h1
  cases e with
  | normal => refine ⟨⟨n + 1, .normal, s1, ?_, h2⟩⟩; show evalC _ _ _ _ _ _ = _; rw [evalC, h1']
  | ret => refine ⟨⟨n + 1, .ret, s1, ?_, h2⟩⟩; show evalC _ _ _ _ _ _ = _; rw [evalC, h1']
  | exit i =>
    simp only at h2
    split at h2
    · rename_i hi
      refine ⟨⟨n + 1, .normal, s1, ?_, h2⟩⟩; show evalC _ _ _ _ _ _ = _; rw [evalC, h1']; simp only [if_pos hi]
    · rename_i hi
      refine ⟨⟨n + 1, .exit i, s1, ?_, h2⟩⟩; show evalC _ _ _ _ _ _ = _; rw [evalC, h1']; simp only [if_neg hi]

theorem W.loop {c : ICode} {s : StW} {Q : Ex → StW → Prop} (h : W M c s (LQ M c Q)) : W M (.loop c) s Q := by
  obtain ⟨⟨n, e, s1, h1, ⟨h2⟩⟩⟩ := h
  have h1' : evalC M.ext M.inv M.FT n c s = some (e, s1) := h1
  cases e with
  | normal =>
    obtain ⟨⟨m, e, s2, h3, h4⟩⟩ := h2
    refine ⟨⟨max n m + 1, e, s2, ?_, h4⟩⟩
    show evalC _ _ _ _ _ _ = _
    rw [evalC, show evalC M.ext M.inv M.FT (max n m) _ s = _ from ev_up (Nat.le_max_left n m) h1]
    exact ev_up (Nat.le_max_right n m) h3
  | exit i => refine ⟨⟨n + 1, .exit i, s1, ?_, h2⟩⟩; show evalC _ _ _ _ _ _ = _; rw [evalC, h1']
  | ret => refine ⟨⟨n + 1, .ret, s1, ?_, h2⟩⟩; show evalC _ _ _ _ _ _ = _; rw [evalC, h1']

theorem W.cond {x : IOpd} {t : Bool} {a b : ICode} {s : StW} {Q : Ex → StW → Prop} (h : s.s.opd x = some (.bool t)) (h1 : t = true → W M a s Q) (h2 : t = false → W M b s Q) : W M (.cond x a b) s Q := by
  cases t with
  | true =>
    obtain ⟨⟨n, e, s', h3, h4⟩⟩ := h1 rfl
    refine ⟨⟨n + 1, e, s', ?_, h4⟩⟩; show evalC _ _ _ _ _ _ = _; rw [evalC, h]; exact h3
  | false =>
    obtain ⟨⟨n, e, s', h3, h4⟩⟩ := h2 rfl
    refine ⟨⟨n + 1, e, s', ?_, h4⟩⟩; show evalC _ _ _ _ _ _ = _; rw [evalC, h]; exact h3
theorem W.condT {x : IOpd} {a b : ICode} {s : StW} {Q : Ex → StW → Prop} (h : s.s.opd x = some (.bool true)) (h1 : W M a s Q) : W M (.cond x a b) s Q := W.cond h (fun _ => h1) (fun h => by cases h)
theorem W.condF {x : IOpd} {a b : ICode} {s : StW} {Q : Ex → StW → Prop} (h : s.s.opd x = some (.bool false)) (h1 : W M b s Q) : W M (.cond x a b) s Q := W.cond h (fun h => by cases h) (fun _ => h1)

theorem W.region {l : List IOper} {pe : List AV} {lo : List (Nat × AV)} {hp : Heap} {df wr : List Nat} {Q : Ex → StW → Prop} (h : WO M l ⟨⟨pe, [], hp, df⟩, wr⟩ (Q .normal)) : W M (.region l) ⟨⟨pe, lo, hp, df⟩, wr⟩ Q := by
  obtain ⟨⟨n, s', h1, h2⟩⟩ := h
  refine ⟨⟨n + 1, .normal, s', ?_, h2⟩⟩
  show evalC _ _ _ _ _ _ = _; rw [evalC, h1]
theorem W.draw {l : List (IOper × List Nat)} {pe : List AV} {lo : List (Nat × AV)} {hp : Heap} {df wr : List Nat} {Q : Ex → StW → Prop} (h : WD M l ⟨⟨pe, [], hp, df⟩, wr⟩ [] (Q .normal)) : W M (.draw l) ⟨⟨pe, lo, hp, df⟩, wr⟩ Q := by
  obtain ⟨⟨n, s', h1, h2⟩⟩ := h
  refine ⟨⟨n + 1, .normal, s', ?_, h2⟩⟩
  show evalC _ _ _ _ _ _ = _; rw [evalC, h1]

theorem WO.nil {s : StW} {Q : StW → Prop} (h : Q s) : WO M [] s Q := ⟨⟨0, s, rfl, h⟩⟩

def IOp.plainHeap : IOp → Bool
  | .call .. | .invoke .. => false
  | _ => true

/-- One operation: a call's outcome or a plain one. -/
structure WP (M : Mach) (s : St) (op : IOp) (Q : HR → Prop) : Prop where
  out : ∃ n r, opA (M.call n) M.inv s op = some r ∧ Q r

theorem WO.op {d : Dst} {op : IOp} {l : List IOper} {s : StW} {Q : StW → Prop} (h : WP M s.s op fun r => WO M l ⟨{ s.s.put d r.v with hp := r.h }, r.wr ++ s.wr⟩ Q) : WO M (⟨d, op, none⟩ :: l) s Q := by
  obtain ⟨⟨n, r, h1, ⟨⟨m, s', h2, h3⟩⟩⟩⟩ := h
  refine ⟨⟨max n m, s', ?_, h3⟩⟩
  simp only [opersA, wantedA]
  rw [opA_le (call_up (Nat.le_max_left n m)) h1]
  exact opersA_le (call_up (Nat.le_max_right n m)) _ _ _ h2

theorem WO.skip {d : Dst} {op : IOp} {x : IOpd} {t want : Bool} {l : List IOper} {s : StW} {Q : StW → Prop} (hx : s.s.opd x = some (.bool t)) (ht : (t == want) = false) (h : WO M l ⟨s.s.put d undefA, s.wr⟩ Q) : WO M (⟨d, op, some (x, want)⟩ :: l) s Q := by
  obtain ⟨⟨n, s', h1, h2⟩⟩ := h
  refine ⟨⟨n, s', ?_, h2⟩⟩
  simp only [opersA, wantedA, hx, ht]
  exact h1
theorem WO.take {d : Dst} {op : IOp} {x : IOpd} {t want : Bool} {l : List IOper} {s : StW} {Q : StW → Prop} (hx : s.s.opd x = some (.bool t)) (ht : (t == want) = true) (h : WO M (⟨d, op, none⟩ :: l) s Q) : WO M (⟨d, op, some (x, want)⟩ :: l) s Q := by
  obtain ⟨⟨n, s', h1, h2⟩⟩ := h
  refine ⟨⟨n, s', ?_, h2⟩⟩
  simp only [opersA, wantedA, hx, ht] at h1 ⊢
  exact h1
theorem WO.skipT {d : Dst} {op : IOp} {x : IOpd} {l : List IOper} {s : StW} {Q : StW → Prop} (hx : s.s.opd x = some (.tup [])) {want : Bool} (h : WO M l ⟨s.s.put d undefA, s.wr⟩ Q) : WO M (⟨d, op, some (x, want)⟩ :: l) s Q := by
  obtain ⟨⟨n, s', h1, h2⟩⟩ := h
  refine ⟨⟨n, s', ?_, h2⟩⟩
  simp only [opersA, wantedA, hx]
  exact h1
/-- Guards that are told: the guarded operation is carried out or left. -/
theorem WO.gT {d : Dst} {op : IOp} {x : IOpd} {l : List IOper} {s : StW} {Q : StW → Prop} (hx : s.s.opd x = some (.bool true)) (h : WO M (⟨d, op, none⟩ :: l) s Q) : WO M (⟨d, op, some (x, true)⟩ :: l) s Q := WO.take hx rfl h
theorem WO.gF {d : Dst} {op : IOp} {x : IOpd} {l : List IOper} {s : StW} {Q : StW → Prop} (hx : s.s.opd x = some (.bool false)) (h : WO M (⟨d, op, none⟩ :: l) s Q) : WO M (⟨d, op, some (x, false)⟩ :: l) s Q := WO.take hx rfl h
theorem WO.sT {t : Nat} {op : IOp} {x : IOpd} {l : List IOper} {pe : List AV} {lo : List (Nat × AV)} {hp : Heap} {df wr : List Nat} {Q : StW → Prop} (hx : (St.mk pe lo hp df).opd x = some (.bool false)) (h : WO M l ⟨⟨pe, (t, undefA) :: lo, hp, df⟩, wr⟩ Q) : WO M (⟨.l t, op, some (x, true)⟩ :: l) ⟨⟨pe, lo, hp, df⟩, wr⟩ Q := WO.skip hx rfl h
theorem WO.sF {t : Nat} {op : IOp} {x : IOpd} {l : List IOper} {pe : List AV} {lo : List (Nat × AV)} {hp : Heap} {df wr : List Nat} {Q : StW → Prop} (hx : (St.mk pe lo hp df).opd x = some (.bool true)) (h : WO M l ⟨⟨pe, (t, undefA) :: lo, hp, df⟩, wr⟩ Q) : WO M (⟨.l t, op, some (x, false)⟩ :: l) ⟨⟨pe, lo, hp, df⟩, wr⟩ Q := WO.skip hx rfl h

theorem WP.pure {s : St} {op : IOp} {v : AV} {Q : HR → Prop} (hh : op.heapy = false) (hv : pureA s op = some v) (h : Q ⟨v, s.hp, []⟩) : WP M s op Q := by
  refine ⟨⟨0, _, ?_, h⟩⟩
  cases op <;> first | (cases hh; done) | simp only [opA, IOp.heapy, hv, Bool.false_eq_true, if_false, Option.map_some]
theorem WP.heap {s : St} {op : IOp} {r : HR} {Q : HR → Prop} (hh : op.heapy = true) (hc : op.plainHeap = true) (hv : heapA s op s.hp = some r) (h : Q r) : WP M s op Q := by
  refine ⟨⟨0, _, ?_, h⟩⟩
  cases op <;> first | (cases hh; done) | (cases hc; done) | (simp only [opA, IOp.heapy, if_true]; exact hv)
theorem WP.call {s : St} {f : IOpd} {args : List IOpd} {g : AV} {as : List AV} {Q : HR → Prop} (hf : s.opd f = some g) (ha : s.opds args = some as) (h : WC M g as s.hp Q) : WP M s (.call f args) Q := by
  obtain ⟨⟨n, r, h1, h2⟩⟩ := h
  refine ⟨⟨n, r, ?_, h2⟩⟩
  simp only [opA, hf, ha]; exact h1
theorem WP.invoke {s : St} {x : IOpd} {name : String} {args : List IOpd} {t : TypeId} {v : AV} {f : FuncId} {as : List AV} {Q : HR → Prop} (hf : s.opd x = some (.iface t v)) (ha : s.opds args = some as) (hi : M.inv t name = some f) (h : WC M (.fn (.func f) [] []) (v :: as) s.hp Q) : WP M s (.invoke x name args) Q := by
  obtain ⟨⟨n, r, h1, h2⟩⟩ := h
  refine ⟨⟨n, r, ?_, h2⟩⟩
  simp only [opA, hf, ha, hi]; exact h1

/-- A call by its contract. -/
theorem WC.ext {f : FuncId} {fi ca as : List AV} {h : Heap} {r : HR} {Q : HR → Prop} (he : M.ext f (fi ++ as ++ ca) h = some r) (hq : Q r) : WC M (.fn (.func f) fi ca) as h Q :=
  ⟨⟨0, r, by simp only [callWith, he], hq⟩⟩
/-- A call by its code. -/
theorem WC.run {f : FuncId} {fi ca as : List AV} {h : Heap} {r : HR} {Q : HR → Prop} (he : M.ext f (fi ++ as ++ ca) h = none) (hr : Run M f (fi ++ as ++ ca) h r) (hq : Q r) : WC M (.fn (.func f) fi ca) as h Q := by
  obtain ⟨n, hn⟩ := hr
  exact ⟨⟨n, r, by simp only [callWith, he]; exact hn, hq⟩⟩

theorem WO.callx {d : Dst} {f : IOpd} {args : List IOpd} {l : List IOper} {s : StW} {Q : StW → Prop} {g : FuncId} {fi ca as : List AV} {r : HR} (hf : s.s.opd f = some (.fn (.func g) fi ca)) (ha : s.s.opds args = some as) (he : M.ext g (fi ++ as ++ ca) s.s.hp = some r)
    (h : WO M l ⟨{ s.s.put d r.v with hp := r.h }, r.wr ++ s.wr⟩ Q) : WO M (⟨d, .call f args, none⟩ :: l) s Q := WO.op (WP.call hf ha (WC.ext he h))

/-- The local form of a plain operation, a slot of the region written; one that lives on; none. -/
theorem WO.pl {t : Nat} {op : IOp} {l : List IOper} {pe : List AV} {lo : List (Nat × AV)} {hp : Heap} {df wr : List Nat} {v : AV} {Q : StW → Prop} (hv : pureA ⟨pe, lo, hp, df⟩ op = some v) (hh : op.heapy = false) (h : WO M l ⟨⟨pe, (t, v) :: lo, hp, df⟩, wr⟩ Q) :
    WO M (⟨.l t, op, none⟩ :: l) ⟨⟨pe, lo, hp, df⟩, wr⟩ Q := WO.op (WP.pure hh hv h)
theorem WO.pp {i : Nat} {op : IOp} {l : List IOper} {pe : List AV} {lo : List (Nat × AV)} {hp : Heap} {df wr : List Nat} {v : AV} {Q : StW → Prop} (hv : pureA ⟨pe, lo, hp, df⟩ op = some v) (hh : op.heapy = false) (h : WO M l ⟨⟨pe.set i v, lo, hp, df⟩, wr⟩ Q) :
    WO M (⟨.p i, op, none⟩ :: l) ⟨⟨pe, lo, hp, df⟩, wr⟩ Q := WO.op (WP.pure hh hv h)
theorem WO.hl {t : Nat} {op : IOp} {l : List IOper} {pe : List AV} {lo : List (Nat × AV)} {hp : Heap} {df wr : List Nat} {r : HR} {Q : StW → Prop} (hv : heapA ⟨pe, lo, hp, df⟩ op hp = some r) (hh : op.heapy = true) (hc : op.plainHeap = true)
    (h : WO M l ⟨⟨pe, (t, r.v) :: lo, r.h, df⟩, r.wr ++ wr⟩ Q) : WO M (⟨.l t, op, none⟩ :: l) ⟨⟨pe, lo, hp, df⟩, wr⟩ Q := WO.op (WP.heap hh hc hv h)
theorem WO.hn {op : IOp} {l : List IOper} {pe : List AV} {lo : List (Nat × AV)} {hp : Heap} {df wr : List Nat} {r : HR} {Q : StW → Prop} (hv : heapA ⟨pe, lo, hp, df⟩ op hp = some r) (hh : op.heapy = true) (hc : op.plainHeap = true)
    (h : WO M l ⟨⟨pe, lo, r.h, df⟩, r.wr ++ wr⟩ Q) : WO M (⟨.no, op, none⟩ :: l) ⟨⟨pe, lo, hp, df⟩, wr⟩ Q := WO.op (WP.heap hh hc hv h)

/-- A comparison parts the ways at once. -/
theorem WO.lss {t : Nat} {x y : IOpd} {l : List IOper} {pe : List AV} {lo : List (Nat × AV)} {hp : Heap} {df wr : List Nat} {k : IntKind} {a b : Int} {Q : StW → Prop} (hx : (St.mk pe lo hp df).opd x = some (.int k a)) (hy : (St.mk pe lo hp df).opd y = some (.int k b))
    (h1 : a < b → WO M l ⟨⟨pe, (t, .bool true) :: lo, hp, df⟩, wr⟩ Q) (h2 : b ≤ a → WO M l ⟨⟨pe, (t, .bool false) :: lo, hp, df⟩, wr⟩ Q) : WO M (⟨.l t, .bin .lss x y, none⟩ :: l) ⟨⟨pe, lo, hp, df⟩, wr⟩ Q := by
  refine WO.op (WP.pure (v := .bool (decide (a < b))) rfl (by simp [pureA, hx, hy, binA]) ?_)
  by_cases h : a < b
  · rw [decide_eq_true h]; exact h1 h
  · rw [decide_eq_false h]; exact h2 (by omega)
theorem WO.leq {t : Nat} {x y : IOpd} {l : List IOper} {pe : List AV} {lo : List (Nat × AV)} {hp : Heap} {df wr : List Nat} {k : IntKind} {a b : Int} {Q : StW → Prop} (hx : (St.mk pe lo hp df).opd x = some (.int k a)) (hy : (St.mk pe lo hp df).opd y = some (.int k b))
    (h1 : a ≤ b → WO M l ⟨⟨pe, (t, .bool true) :: lo, hp, df⟩, wr⟩ Q) (h2 : b < a → WO M l ⟨⟨pe, (t, .bool false) :: lo, hp, df⟩, wr⟩ Q) : WO M (⟨.l t, .bin .leq x y, none⟩ :: l) ⟨⟨pe, lo, hp, df⟩, wr⟩ Q := by
  refine WO.op (WP.pure (v := .bool (decide (a ≤ b))) rfl (by simp [pureA, hx, hy, binA]) ?_)
  by_cases h : a ≤ b
  · rw [decide_eq_true h]; exact h1 h
  · rw [decide_eq_false h]; exact h2 (by omega)
theorem WO.gtr {t : Nat} {x y : IOpd} {l : List IOper} {pe : List AV} {lo : List (Nat × AV)} {hp : Heap} {df wr : List Nat} {k : IntKind} {a b : Int} {Q : StW → Prop} (hx : (St.mk pe lo hp df).opd x = some (.int k a)) (hy : (St.mk pe lo hp df).opd y = some (.int k b))
    (h1 : b < a → WO M l ⟨⟨pe, (t, .bool true) :: lo, hp, df⟩, wr⟩ Q) (h2 : a ≤ b → WO M l ⟨⟨pe, (t, .bool false) :: lo, hp, df⟩, wr⟩ Q) : WO M (⟨.l t, .bin .gtr x y, none⟩ :: l) ⟨⟨pe, lo, hp, df⟩, wr⟩ Q := by
  refine WO.op (WP.pure (v := .bool (decide (a > b))) rfl (by simp [pureA, hx, hy, binA]) ?_)
  by_cases h : b < a
  · rw [decide_eq_true h]; exact h1 h
  · rw [decide_eq_false h]; exact h2 (by omega)
theorem WO.geq {t : Nat} {x y : IOpd} {l : List IOper} {pe : List AV} {lo : List (Nat × AV)} {hp : Heap} {df wr : List Nat} {k : IntKind} {a b : Int} {Q : StW → Prop} (hx : (St.mk pe lo hp df).opd x = some (.int k a)) (hy : (St.mk pe lo hp df).opd y = some (.int k b))
    (h1 : b ≤ a → WO M l ⟨⟨pe, (t, .bool true) :: lo, hp, df⟩, wr⟩ Q) (h2 : a < b → WO M l ⟨⟨pe, (t, .bool false) :: lo, hp, df⟩, wr⟩ Q) : WO M (⟨.l t, .bin .geq x y, none⟩ :: l) ⟨⟨pe, lo, hp, df⟩, wr⟩ Q := by
  refine WO.op (WP.pure (v := .bool (decide (a ≥ b))) rfl (by simp [pureA, hx, hy, binA]) ?_)
  by_cases h : b ≤ a
  · rw [decide_eq_true h]; exact h1 h
  · rw [decide_eq_false h]; exact h2 (by omega)
theorem WO.eql {t : Nat} {x y : IOpd} {l : List IOper} {pe : List AV} {lo : List (Nat × AV)} {hp : Heap} {df wr : List Nat} {k : IntKind} {a b : Int} {Q : StW → Prop} (hx : (St.mk pe lo hp df).opd x = some (.int k a)) (hy : (St.mk pe lo hp df).opd y = some (.int k b))
    (h1 : a = b → WO M l ⟨⟨pe, (t, .bool true) :: lo, hp, df⟩, wr⟩ Q) (h2 : a ≠ b → WO M l ⟨⟨pe, (t, .bool false) :: lo, hp, df⟩, wr⟩ Q) : WO M (⟨.l t, .bin .eql x y, none⟩ :: l) ⟨⟨pe, lo, hp, df⟩, wr⟩ Q := by
  refine WO.op (WP.pure (v := .bool (a == b)) rfl (by simp [pureA, hx, hy, binA]) ?_)
  by_cases h : a = b
  · rw [beq_iff_eq.2 h]; exact h1 h
  · rw [beq_eq_false_iff_ne.2 h]; exact h2 h
theorem WO.neq {t : Nat} {x y : IOpd} {l : List IOper} {pe : List AV} {lo : List (Nat × AV)} {hp : Heap} {df wr : List Nat} {k : IntKind} {a b : Int} {Q : StW → Prop} (hx : (St.mk pe lo hp df).opd x = some (.int k a)) (hy : (St.mk pe lo hp df).opd y = some (.int k b))
    (h1 : a ≠ b → WO M l ⟨⟨pe, (t, .bool true) :: lo, hp, df⟩, wr⟩ Q) (h2 : a = b → WO M l ⟨⟨pe, (t, .bool false) :: lo, hp, df⟩, wr⟩ Q) : WO M (⟨.l t, .bin .neq x y, none⟩ :: l) ⟨⟨pe, lo, hp, df⟩, wr⟩ Q := by
  refine WO.op (WP.pure (v := .bool (a != b)) rfl (by simp [pureA, hx, hy, binA]) ?_)
  by_cases h : a = b
  · rw [bne_eq_false_iff_eq.2 h]; exact h2 h
  · rw [bne_iff_ne.2 h]; exact h1 h
theorem WO.seql {t : Nat} {x y : IOpd} {l : List IOper} {pe : List AV} {lo : List (Nat × AV)} {hp : Heap} {df wr : List Nat} {a b : List UInt8} {Q : StW → Prop} (hx : (St.mk pe lo hp df).opd x = some (.str a)) (hy : (St.mk pe lo hp df).opd y = some (.str b))
    (h1 : a = b → WO M l ⟨⟨pe, (t, .bool true) :: lo, hp, df⟩, wr⟩ Q) (h2 : a ≠ b → WO M l ⟨⟨pe, (t, .bool false) :: lo, hp, df⟩, wr⟩ Q) : WO M (⟨.l t, .bin .eql x y, none⟩ :: l) ⟨⟨pe, lo, hp, df⟩, wr⟩ Q := by
  refine WO.op (WP.pure (v := .bool (a == b)) rfl (by simp [pureA, hx, hy, binA]) ?_)
  by_cases h : a = b
  · rw [beq_iff_eq.2 h]; exact h1 h
  · rw [beq_eq_false_iff_ne.2 h]; exact h2 h
theorem WO.sneq {t : Nat} {x y : IOpd} {l : List IOper} {pe : List AV} {lo : List (Nat × AV)} {hp : Heap} {df wr : List Nat} {a b : List UInt8} {Q : StW → Prop} (hx : (St.mk pe lo hp df).opd x = some (.str a)) (hy : (St.mk pe lo hp df).opd y = some (.str b))
    (h1 : a ≠ b → WO M l ⟨⟨pe, (t, .bool true) :: lo, hp, df⟩, wr⟩ Q) (h2 : a = b → WO M l ⟨⟨pe, (t, .bool false) :: lo, hp, df⟩, wr⟩ Q) : WO M (⟨.l t, .bin .neq x y, none⟩ :: l) ⟨⟨pe, lo, hp, df⟩, wr⟩ Q := by
  refine WO.op (WP.pure (v := .bool !(a == b)) rfl (by simp [pureA, hx, hy, binA]) ?_)
  by_cases h : a = b
  · rw [beq_iff_eq.2 h]; exact h2 h
  · rw [beq_eq_false_iff_ne.2 h]; exact h1 h

theorem i64_wrap {n : Int} (h : -9223372036854775808 ≤ n ∧ n < 9223372036854775808) : IntKind.i64.wrap n = n := IntWalk.i64_in _ (by omega)

/-- Sums, differences, products of machine integers that stay in their range. -/
theorem WO.add {t : Nat} {x y : IOpd} {l : List IOper} {pe : List AV} {lo : List (Nat × AV)} {hp : Heap} {df wr : List Nat} {a b : Int} {Q : StW → Prop} (hx : (St.mk pe lo hp df).opd x = some (.int .i64 a)) (hy : (St.mk pe lo hp df).opd y = some (.int .i64 b))
    (hr : -9223372036854775808 ≤ a + b ∧ a + b < 9223372036854775808) (h : WO M l ⟨⟨pe, (t, .int .i64 (a + b)) :: lo, hp, df⟩, wr⟩ Q) : WO M (⟨.l t, .bin .add x y, none⟩ :: l) ⟨⟨pe, lo, hp, df⟩, wr⟩ Q :=
  WO.op (WP.pure (v := .int .i64 (a + b)) rfl (by simp [pureA, hx, hy, binA, i64_wrap hr]) h)
theorem WO.sub {t : Nat} {x y : IOpd} {l : List IOper} {pe : List AV} {lo : List (Nat × AV)} {hp : Heap} {df wr : List Nat} {a b : Int} {Q : StW → Prop} (hx : (St.mk pe lo hp df).opd x = some (.int .i64 a)) (hy : (St.mk pe lo hp df).opd y = some (.int .i64 b))
    (hr : -9223372036854775808 ≤ a - b ∧ a - b < 9223372036854775808) (h : WO M l ⟨⟨pe, (t, .int .i64 (a - b)) :: lo, hp, df⟩, wr⟩ Q) : WO M (⟨.l t, .bin .sub x y, none⟩ :: l) ⟨⟨pe, lo, hp, df⟩, wr⟩ Q :=
  WO.op (WP.pure (v := .int .i64 (a - b)) rfl (by simp [pureA, hx, hy, binA, i64_wrap hr]) h)
theorem WO.mul {t : Nat} {x y : IOpd} {l : List IOper} {pe : List AV} {lo : List (Nat × AV)} {hp : Heap} {df wr : List Nat} {a b : Int} {Q : StW → Prop} (hx : (St.mk pe lo hp df).opd x = some (.int .i64 a)) (hy : (St.mk pe lo hp df).opd y = some (.int .i64 b))
    (hr : -9223372036854775808 ≤ a * b ∧ a * b < 9223372036854775808) (h : WO M l ⟨⟨pe, (t, .int .i64 (a * b)) :: lo, hp, df⟩, wr⟩ Q) : WO M (⟨.l t, .bin .mul x y, none⟩ :: l) ⟨⟨pe, lo, hp, df⟩, wr⟩ Q :=
  WO.op (WP.pure (v := .int .i64 (a * b)) rfl (by simp [pureA, hx, hy, binA, i64_wrap hr]) h)
/-- Quotients and rests by a positive number. -/
theorem WO.quo {t : Nat} {x y : IOpd} {l : List IOper} {pe : List AV} {lo : List (Nat × AV)} {hp : Heap} {df wr : List Nat} {a b : Int} {Q : StW → Prop} (hx : (St.mk pe lo hp df).opd x = some (.int .i64 a)) (hy : (St.mk pe lo hp df).opd y = some (.int .i64 b))
    (hb : 0 < b) (hr : -9223372036854775808 ≤ a ∧ a < 9223372036854775808) (h : WO M l ⟨⟨pe, (t, .int .i64 (a.tdiv b)) :: lo, hp, df⟩, wr⟩ Q) : WO M (⟨.l t, .bin .quo x y, none⟩ :: l) ⟨⟨pe, lo, hp, df⟩, wr⟩ Q := by
  have hb' : b ≠ 0 := by omega
  have h1 : (a.tdiv b).natAbs ≤ a.natAbs := by rw [Int.natAbs_tdiv]; exact Nat.div_le_self _ _
  have h2 : -9223372036854775808 ≤ a.tdiv b ∧ a.tdiv b < 9223372036854775808 := by
    rcases Int.le_total 0 a with h0 | h0
    · have := Int.tdiv_nonneg h0 (Int.le_of_lt hb); omega
    · have : a.tdiv b ≤ 0 := by
        have := Int.tdiv_nonneg (a := -a) (b := b) (by omega) (Int.le_of_lt hb)
        rw [Int.neg_tdiv] at this; omega
      omega
  exact WO.op (WP.pure (v := .int .i64 (a.tdiv b)) rfl (by simp [pureA, hx, hy, binA, hb', i64_wrap h2]) h)
theorem WO.rem {t : Nat} {x y : IOpd} {l : List IOper} {pe : List AV} {lo : List (Nat × AV)} {hp : Heap} {df wr : List Nat} {k : IntKind} {a b : Int} {Q : StW → Prop} (hx : (St.mk pe lo hp df).opd x = some (.int k a)) (hy : (St.mk pe lo hp df).opd y = some (.int k b))
    (hb : b ≠ 0) (h : WO M l ⟨⟨pe, (t, .int k (a.tmod b)) :: lo, hp, df⟩, wr⟩ Q) : WO M (⟨.l t, .bin .rem x y, none⟩ :: l) ⟨⟨pe, lo, hp, df⟩, wr⟩ Q :=
  WO.op (WP.pure (v := .int k (a.tmod b)) rfl (by simp [pureA, hx, hy, binA, hb]) h)

/-- An element's address; a byte of a text. -/
theorem WO.iav {t esz : Nat} {x i : IOpd} {l : List IOper} {pe : List AV} {lo : List (Nat × AV)} {hp : Heap} {df wr : List Nat} {c : List AV} {len : Nat} {cap : Option Nat} {k : IntKind} {n : Int} {Q : StW → Prop} (hx : (St.mk pe lo hp df).opd x = some (.vs c len cap)) (hy : (St.mk pe lo hp df).opd i = some (.int k n))
    (hb : 0 ≤ n ∧ n < len) (h : WO M l ⟨⟨pe, (t, .vp (c.drop (n.toNat * esz))) :: lo, hp, df⟩, wr⟩ Q) : WO M (⟨.l t, .iaddr none esz x i, none⟩ :: l) ⟨⟨pe, lo, hp, df⟩, wr⟩ Q :=
  WO.op (WP.pure (v := .vp (c.drop (n.toNat * esz))) rfl (by simp [pureA, hx, hy, iaddrA, hb]) h)
theorem WO.ias {t esz : Nat} {x i : IOpd} {l : List IOper} {pe : List AV} {lo : List (Nat × AV)} {hp : Heap} {df wr : List Nat} {b o len : Nat} {cap : Option Nat} {k : IntKind} {n : Int} {Q : StW → Prop} (hx : (St.mk pe lo hp df).opd x = some (.sl b o len esz cap)) (hy : (St.mk pe lo hp df).opd i = some (.int k n))
    (hb : 0 ≤ n ∧ n < len) (h : WO M l ⟨⟨pe, (t, .ptr b (o + n.toNat * esz)) :: lo, hp, df⟩, wr⟩ Q) : WO M (⟨.l t, .iaddr none esz x i, none⟩ :: l) ⟨⟨pe, lo, hp, df⟩, wr⟩ Q :=
  WO.op (WP.pure (v := .ptr b (o + n.toNat * esz)) rfl (by simp [pureA, hx, hy, iaddrA, hb]) h)
theorem WO.idx {t : Nat} {x i : IOpd} {l : List IOper} {pe : List AV} {lo : List (Nat × AV)} {hp : Heap} {df wr : List Nat} {s : List UInt8} {k : IntKind} {n : Int} {Q : StW → Prop} (hx : (St.mk pe lo hp df).opd x = some (.str s)) (hy : (St.mk pe lo hp df).opd i = some (.int k n))
    (hb : 0 ≤ n ∧ n < s.length) (h : WO M l ⟨⟨pe, (t, .int .u8 (s[n.toNat]!).toNat) :: lo, hp, df⟩, wr⟩ Q) : WO M (⟨.l t, .index x i, none⟩ :: l) ⟨⟨pe, lo, hp, df⟩, wr⟩ Q := by
  have h1 : n.toNat < s.length := by omega
  refine WO.op (WP.pure (v := .int .u8 (s[n.toNat]!).toNat) rfl ?_ h)
  simp [pureA, hx, hy, indexA, hb.1, h1]

theorem SQn {b : ICode} {s : StW} {Q} (h : W M b s Q) : SQ M b Q .normal s := ⟨h⟩
theorem SQe {b : ICode} {s : StW} {Q} {i : Nat} (h : Q (.exit i) s) : SQ M b Q (.exit i) s := ⟨h⟩
theorem SQr {b : ICode} {s : StW} {Q} (h : Q .ret s) : SQ M b Q .ret s := ⟨h⟩
theorem BQn {b : Nat} {s : StW} {Q} (h : Q .normal s) : BQ b Q .normal s := ⟨h⟩
theorem BQr {b : Nat} {s : StW} {Q} (h : Q .ret s) : BQ b Q .ret s := ⟨h⟩
theorem BQe {b : Nat} {s : StW} {Q} (h : Q .normal s) : BQ b Q (.exit b) s := ⟨by simp only [if_true]; exact h⟩
theorem BQo {b i : Nat} {s : StW} {Q} (hn : Nat.beq i b = false) (h : Q (.exit i) s) : BQ b Q (.exit i) s :=
  ⟨by simp only; rw [if_neg (fun e => by subst e; simp at hn)]; exact h⟩
theorem LQn {b : ICode} {s : StW} {Q} (h : W M (.loop b) s Q) : LQ M b Q .normal s := ⟨h⟩
theorem LQe {b : ICode} {s : StW} {Q} {i : Nat} (h : Q (.exit i) s) : LQ M b Q (.exit i) s := ⟨h⟩
theorem LQr {b : ICode} {s : StW} {Q} (h : Q .ret s) : LQ M b Q .ret s := ⟨h⟩

theorem run_of_W {f N : Nat} {pers : List Nat} {res : List IRes} {body : ICode} {as : List AV} {v : AV} {hh : Heap} (hft : M.FT f = some ⟨N, pers, res, body⟩) (hN : as.length ≤ N)
    (h : W M body ⟨⟨pers.map (fun t => (as[t]?).getD undefA), [], [], []⟩, []⟩ fun e s => (e = .normal ∨ e = .ret) ∧ s.s.dfs = [] ∧ ∃ vs, resultsA s.s res = some vs ∧ tupA vs = v ∧ (if v.top ≤ 0 then [] else s.s.hp) = hh) : Run M f as [] ⟨v, hh, []⟩ := by
  obtain ⟨⟨n, e, s, h1, h2, h3, vs, h4, h5, h6⟩⟩ := h
  refine ⟨n, ?_⟩
  have h1' : evalC M.ext M.inv M.FT n body ⟨⟨pers.map (fun t => (as[t]?).getD undefA), [], [], []⟩, []⟩ = some (e, s) := h1
  simp only [callFT, hft]
  rw [if_neg (by omega)]
  simp only [Mach.ev, h1', if_pos h2, h3, takeDfs, h4]
  subst h5; subst h6
  have ht : tight s.s.hp 0 s.wr = true := by
    simp only [tight, List.all_eq_true]
    intro b _
    split <;> simp
  have hf : s.wr.filter (fun b => decide (b < 0)) = [] := by simp
  simp only [retA, List.length_nil, ht, Bool.and_true, hf, List.take_zero, decide_eq_true_eq]
  split <;> rfl
end Go.Ab


/-
  Own work: functions known by their contracts: a table, how it grows.
-/
namespace Go.Ab
variable {P : Program} {gl : Nat → Option AV}

abbrev Spec := List AV → Heap → Option HR

def extS : List (Nat × Spec) → FuncId → List AV → Heap → Option HR
  | [], _, _, _ => none
  | (g, sp) :: T, f, as, h => if Nat.beq g f then sp as h else extS T f as h

def SpecOK (P : Program) (gl : Nat → Option AV) (f : Nat) (sp : Spec) : Prop := ∀ as h r, sp as h = some r → EntHOK P gl ⟨f, as, h, r⟩

theorem tab_nil : ExtOK P gl (extS []) := fun _ _ _ _ h => by cases h
theorem tab_cons {f : Nat} {sp : Spec} {T : List (Nat × Spec)} (h : SpecOK P gl f sp) (hT : ExtOK P gl (extS T)) : ExtOK P gl (extS ((f, sp) :: T)) := by
  intro g all hp r hq
  simp only [extS] at hq
  split at hq
  · rename_i e
    have e' := Nat.eq_of_beq_eq_true e
    subst e'
    exact h _ _ _ hq
  · exact hT g all hp r hq

/-- A function without a body that the machine knows, as a contract. -/
def specX (k : XK) : Spec := fun as h => (k.run as).map fun v => ⟨v, h, []⟩
theorem specX_ok {f : Nat} {k : XK} (h : XOK P f k) : SpecOK P gl f (specX k) := by
  intro as hp r hq
  have := extN_ok (P := P) (gl := gl) (L := [(f, k)]) (fun p hp => by simp only [List.mem_singleton] at hp; subst hp; exact h) f as hp r
  simp only [extN, Nat.beq_refl, if_true] at this
  simp only [specX, Option.map_eq_some_iff] at hq
  obtain ⟨v, hv, rfl⟩ := hq
  exact this (by simp only [hv])

/-- A call of no blocks that was shown on the empty heap. -/
def spec0 (as0 : List AV) (v : AV) : Spec := fun as h => if eqVL as as0 then some ⟨v, h, []⟩ else none
theorem spec0_ok (hgl : ∀ g v, gl g = some v → v.top = 0) {f : Nat} {as0 : List AV} {v : AV} (hv : v.top = 0) (htop : topL as0 = 0) (hloc : EntHOK P gl ⟨f, as0, [], ⟨v, [], []⟩⟩) : SpecOK P gl f (spec0 as0 v) := by
  intro as h r hq
  simp only [spec0] at hq
  split at hq
  · rename_i e
    have e' := eqVL_eq e
    subst e'
    cases hq
    have := ent_view (h := h) (S := []) (ks := []) (bs := []) hgl (as := as) ⟨rfl, fun i x y hx hy => by rw [hx] at hy; cases hy; exact .same (by have := topL_le (n := 0) (by omega) i x hx; omega)⟩ (by simp) (.same hv) rfl (by simp) (.inl rfl) hloc
    simpa using this
  · cases hq

structure Seat (P : Program) (gl : Nat → Option AV) (FT : FuncId → Option IFunc) : Prop where
  mix : P.follows .mixedOrders = true
  ft : FTOK P gl FT
  gl : ∀ g v, gl g = some v → v.top = 0

abbrev mach (P : Program) (FT : FuncId → Option IFunc) (T : List (Nat × Spec)) : Mach := ⟨extS T, invP P, FT⟩

/-- A run, with the contracts of a table, is the model's. -/
theorem run_ok {FT : FuncId → Option IFunc} (hs : Seat P gl FT) {T : List (Nat × Spec)} (hT : ExtOK P gl (extS T)) {f : Nat} {as : List AV} {h : Heap} {r : HR} (hr : Run (mach P FT T) f as h r) (hw : WrOK h r) : EntHOK P gl ⟨f, as, h, r⟩ := by
  obtain ⟨n, hn⟩ := hr
  refine ⟨hw, fun ρ w as' m hv => ?_⟩
  obtain ⟨h1, h2⟩ := callFT_ok (eval_ok hs.mix hT hs.ft n) hs.ft hn m hv
  refine ⟨_, _, h1, ?_⟩
  refine CallsIn.mono h2 fun e w' he => ?_
  cases e with
  | returned v => exact he
  | panicked _ => exact he
  | outgrown => exact he

/-- From a run on the empty heap, of arguments as contents, to the call at hand. -/
theorem ent_run {FT : FuncId → Option IFunc} (hs : Seat P gl FT) {T : List (Nat × Spec)} (hT : ExtOK P gl (extS T)) {f : Nat} {as as0 : List AV} {h : Heap} {S ks : List Nat} {v v1 : AV} {hh : Heap} {bs : List Blk} (hr : Run (mach P FT T) f as0 [] ⟨v, hh, []⟩)
    (hv : FrL h S as as0) (hnd : ks.Nodup) (hv1 : Rn ks h.length v v1) (hlen : ks.length = bs.length)
    (hbs : ∀ (i b : Nat) o1, ks[i]? = some b → bs[i]? = some o1 → ∃ o, hh.at b = some o ∧ RnB ks h.length o o1 ∧ (S = [] ∨ novB o = true)) (hn : S = [] ∨ nov v = true) : EntHOK P gl ⟨f, as, h, ⟨v1, h ++ bs.map some, []⟩⟩ :=
  ent_view hs.gl hv hnd hv1 hlen hbs hn (run_ok hs hT hr ⟨Nat.zero_le _, fun _ hb => absurd hb (Nat.not_lt_zero _)⟩)

/-- The same where nothing new is handed back. -/
theorem ent_run0 {FT : FuncId → Option IFunc} (hs : Seat P gl FT) {T : List (Nat × Spec)} (hT : ExtOK P gl (extS T)) {f : Nat} {as as0 : List AV} {h hh : Heap} {S : List Nat} {v : AV} (hr : Run (mach P FT T) f as0 [] ⟨v, hh, []⟩)
    (hv : FrL h S as as0) (ht : v.top = 0) (hn : S = [] ∨ nov v = true) : EntHOK P gl ⟨f, as, h, ⟨v, h, []⟩⟩ := by
  have := ent_run hs hT (ks := []) (bs := []) hr hv (by simp) (.same ht) rfl (by simp) hn
  simpa using this

/-- The same with one new block of plain cells. -/
theorem ent_run1 {FT : FuncId → Option IFunc} (hs : Seat P gl FT) {T : List (Nat × Spec)} (hT : ExtOK P gl (extS T)) {f : Nat} {as as0 : List AV} {h hh : Heap} {S : List Nat} {k : Nat} {v v1 : AV} {l : List AV} {e : TypeId} (hr : Run (mach P FT T) f as0 [] ⟨v, hh, []⟩)
    (hv : FrL h S as as0) (hv1 : Rn [k] h.length v v1) (hat : hh.at k = some (.cells l e)) (hl : topL l = 0) (hnl : S = [] ∨ novL l = true) (hn : S = [] ∨ nov v = true) : EntHOK P gl ⟨f, as, h, ⟨v1, h ++ [some (.cells l e)], []⟩⟩ := by
  refine ent_run hs hT (ks := [k]) (bs := [.cells l e]) hr hv (by simp) hv1 rfl ?_ hn
  intro i b o1 hi ho
  cases i with
  | zero => simp at hi ho; subst hi; subst ho; exact ⟨_, hat, .cells (.same hl), hnl⟩
  | succ i => simp at hi

theorem FrL.nil {h : Heap} {S : List Nat} : FrL h S [] [] := ⟨rfl, by simp⟩
theorem FrL.cons {h : Heap} {S : List Nat} {x y : AV} {l m : List AV} (h1 : Fr h S x y) (h2 : FrL h S l m) : FrL h S (x :: l) (y :: m) := by
  refine ⟨by simp [h2.1], fun i a b ha hb => ?_⟩
  cases i with
  | zero => simp at ha hb; subst ha; subst hb; exact h1
  | succ i => simp at ha hb; exact h2.2 i a b ha hb
theorem FrL.same {h : Heap} {S : List Nat} {l : List AV} (ht : topL l = 0) : FrL h S l l :=
  ⟨rfl, fun i x y hx hy => by rw [hx] at hy; cases hy; exact .same (by have := topL_le (n := 0) (by omega) i x hx; omega)⟩
theorem Fr.mono {h : Heap} {S S' : List Nat} (hs : ∀ b ∈ S, b ∈ S') {x y : AV} (hf : Fr h S x y) : Fr h S' x y := by
  induction hf with
  | same ht => exact .same ht
  | nil hc => exact .nil hc
  | sl hb ha hc hl _ ih => exact .sl (hs _ hb) ha hc hl ih
  | ptr hb ha hl _ ih => exact .ptr (hs _ hb) ha hl ih
  | vs hl _ ih => exact .vs hl ih
  | agg hl _ ih => exact .agg hl ih
  | fn hf h1 h2 _ _ ih1 ih2 => exact .fn hf h1 h2 ih1 ih2

/-- A slice whose elements are f of the elements of a list. -/
def arr {α : Type} (f : α → List AV) (l : List α) : List AV := l.flatMap f
def ints (l : List Int) : List AV := arr (fun x => [.int .i64 x]) l

theorem nov_append {a b : List AV} : novL (a ++ b) = (novL a && novL b) := by
  induction a with
  | nil => simp [novL]
  | cons x a ih => simp only [List.cons_append, novL, ih, Bool.and_assoc]
theorem novL_arr {α : Type} {f : α → List AV} (hf : ∀ a, novL (f a) = true) : ∀ l : List α, novL (arr f l) = true
  | [] => rfl
  | a :: l => by
    have := novL_arr hf l
    simp only [arr, List.flatMap_cons, nov_append, hf] at this ⊢
    simpa using this

/-- What a readable slice holds. -/
def Sl {α : Type} (f : α → List AV) (h : Heap) (v : AV) (l : List α) : Prop :=
  (v = .nilsl ∧ l = []) ∨ (∃ cap, v = .vs (arr f l) l.length cap) ∨ (∃ b off esz cap c e, v = .sl b off l.length esz cap ∧ h.at b = some (.cells c e) ∧ cut c off (l.length * esz) = some (arr f l))

theorem topL_append {a b : List AV} : topL (a ++ b) = max (topL a) (topL b) := by
  induction a with
  | nil => simp [topL]
  | cons x a ih => simp only [List.cons_append, topL, ih]; omega
theorem topL_arr {α : Type} {f : α → List AV} (hf : ∀ a, topL (f a) = 0) : ∀ l : List α, topL (arr f l) = 0
  | [] => rfl
  | a :: l => by
    have := topL_arr hf l
    simp only [arr, List.flatMap_cons, topL_append, hf] at this ⊢
    omega

/-- A readable slice of plain elements, as its contents. -/
theorem Sl.fr {α : Type} {f : α → List AV} (hf : ∀ a, topL (f a) = 0) {h : Heap} {v : AV} {l : List α} (hs : Sl f h v l) : ∃ S cap, Fr h S v (.vs (arr f l) l.length cap) := by
  rcases hs with ⟨rfl, rfl⟩ | ⟨cap, rfl⟩ | ⟨b, off, esz, cap, c, e, rfl, h1, h2⟩
  · exact ⟨[], none, .nil (by simp)⟩
  · exact ⟨[], cap, .same (by simp only [AV.top]; exact topL_arr hf l)⟩
  · refine ⟨[b], cap, .sl (List.mem_singleton.2 rfl) h1 h2 rfl fun i x y hx hy => ?_⟩
    rw [hx] at hy; cases hy
    exact .same (by have := topL_le (n := 0) (Nat.le_of_eq (topL_arr hf l)) i x hx; omega)
end Go.Ab


/-
  Own work: the calculus of runs: memory, drawn regions that only read, slots told true or false.
-/
namespace Go.Ab
variable {M : Mach}

theorem WO.pkT {t : Nat} {c a b : IOpd} {l : List IOper} {pe : List AV} {lo : List (Nat × AV)} {hp : Heap} {df wr : List Nat} {v : AV} {Q : StW → Prop} (hc : (St.mk pe lo hp df).opd c = some (.bool true)) (ha : (St.mk pe lo hp df).opd a = some v)
    (h : WO M l ⟨⟨pe, (t, v) :: lo, hp, df⟩, wr⟩ Q) : WO M (⟨.l t, .pick c a b, none⟩ :: l) ⟨⟨pe, lo, hp, df⟩, wr⟩ Q :=
  WO.op (WP.pure (v := v) rfl (by simp only [pureA, hc, ha]; cases (St.mk pe lo hp df).opd b <;> simp) h)
theorem WO.pkF {t : Nat} {c a b : IOpd} {l : List IOper} {pe : List AV} {lo : List (Nat × AV)} {hp : Heap} {df wr : List Nat} {v : AV} {Q : StW → Prop} (hc : (St.mk pe lo hp df).opd c = some (.bool false)) (hb : (St.mk pe lo hp df).opd b = some v)
    (h : WO M l ⟨⟨pe, (t, v) :: lo, hp, df⟩, wr⟩ Q) : WO M (⟨.l t, .pick c a b, none⟩ :: l) ⟨⟨pe, lo, hp, df⟩, wr⟩ Q :=
  WO.op (WP.pure (v := v) rfl (by simp only [pureA, hc, hb]; cases (St.mk pe lo hp df).opd a <;> simp) h)

theorem WO.hlv {t : Nat} {op : IOp} {l : List IOper} {pe : List AV} {lo : List (Nat × AV)} {hp h' : Heap} {df wr w' : List Nat} {v : AV} {Q : StW → Prop} (hv : heapA ⟨pe, lo, hp, df⟩ op hp = some ⟨v, h', w'⟩) (hh : op.heapy = true) (hc : op.plainHeap = true)
    (h : WO M l ⟨⟨pe, (t, v) :: lo, h', df⟩, w' ++ wr⟩ Q) : WO M (⟨.l t, op, none⟩ :: l) ⟨⟨pe, lo, hp, df⟩, wr⟩ Q := WO.op (WP.heap hh hc hv h)
theorem WO.hpv {i : Nat} {op : IOp} {l : List IOper} {pe : List AV} {lo : List (Nat × AV)} {hp h' : Heap} {df wr w' : List Nat} {v : AV} {Q : StW → Prop} (hv : heapA ⟨pe, lo, hp, df⟩ op hp = some ⟨v, h', w'⟩) (hh : op.heapy = true) (hc : op.plainHeap = true)
    (h : WO M l ⟨⟨pe.set i v, lo, h', df⟩, w' ++ wr⟩ Q) : WO M (⟨.p i, op, none⟩ :: l) ⟨⟨pe, lo, hp, df⟩, wr⟩ Q := WO.op (WP.heap hh hc hv h)
theorem WO.hnv {op : IOp} {l : List IOper} {pe : List AV} {lo : List (Nat × AV)} {hp h' : Heap} {df wr w' : List Nat} {v : AV} {Q : StW → Prop} (hv : heapA ⟨pe, lo, hp, df⟩ op hp = some ⟨v, h', w'⟩) (hh : op.heapy = true) (hc : op.plainHeap = true)
    (h : WO M l ⟨⟨pe, lo, h', df⟩, w' ++ wr⟩ Q) : WO M (⟨.no, op, none⟩ :: l) ⟨⟨pe, lo, hp, df⟩, wr⟩ Q := WO.op (WP.heap hh hc hv h)

/-! Lists of cells that are f of the elements. -/
theorem arr_cons {α : Type} {f : α → List AV} (a : α) (l : List α) : arr f (a :: l) = f a ++ arr f l := rfl
theorem arr_append {α : Type} {f : α → List AV} (l m : List α) : arr f (l ++ m) = arr f l ++ arr f m := by simp [arr]
section
variable {α : Type} {f : α → List AV} {esz : Nat}

theorem arr_length (hf : ∀ a, (f a).length = esz) : ∀ l : List α, (arr f l).length = l.length * esz
  | [] => by simp [arr]
  | a :: l => by rw [arr_cons, List.length_append, hf, arr_length hf l, List.length_cons, Nat.add_mul]; omega
theorem arr_drop (hf : ∀ a, (f a).length = esz) : ∀ (l : List α) (i : Nat), (arr f l).drop (i * esz) = arr f (l.drop i)
  | [], i => by simp [arr]
  | a :: l, 0 => by simp
  | a :: l, i + 1 => by
    rw [arr_cons, List.drop_append, show (i + 1) * esz = esz + i * esz from by rw [Nat.add_mul]; omega, hf, Nat.add_sub_cancel_left, arr_drop hf l i, List.drop_succ_cons, List.drop_eq_nil_of_le (by rw [hf]; omega)]
    rfl
theorem arr_at [ia : Inhabited α] (hf : ∀ a, (f a).length = esz) {l : List α} {i : Nat} (h : i < l.length) : ∃ r, (arr f l).drop (i * esz) = f l[i]! ++ r := by
  refine ⟨arr f (l.drop (i + 1)), ?_⟩
  rw [arr_drop hf, List.drop_eq_getElem_cons h, arr_cons, getElem!_pos l i h]
theorem part_append {a r : List AV} {j n : Nat} {ag : Bool} (h : j + n ≤ a.length) (hn : ag = true ∨ 0 < n) : partOf (a ++ r) j n ag = partOf a j n ag := by
  cases ag with
  | true => 
    simp only [partOf, if_true, cut]
    rw [List.drop_append, List.take_append_of_le_length (by simp; omega)]
  | false =>
    simp only [partOf, Bool.false_eq_true, if_false]
    have : 0 < n := by simpa using hn
    rw [List.getElem?_append_left (by omega)]
theorem part_drop {a : List AV} {j n : Nat} {ag : Bool} : partOf (a.drop j) 0 n ag = partOf a j n ag := by
  cases ag <;> simp [partOf, cut]
theorem arr_part [ia : Inhabited α] (hf : ∀ a, (f a).length = esz) {l : List α} {i j n : Nat} {ag : Bool} (h : i < l.length) (hj : j + n ≤ esz) (hn : 0 < n) : partOf ((arr f l).drop (i * esz)) j n ag = partOf (f l[i]!) j n ag := by
  obtain ⟨r, hr⟩ := arr_at hf h
  rw [hr, part_append (by rw [hf]; exact hj) (.inr hn)]
theorem over_append {a b r new : List AV} {j : Nat} (h : j + new.length ≤ b.length) : overwrite (a ++ (b ++ r)) (a.length + j) new = a ++ (overwrite b j new ++ r) := by
  have h1 : (a ++ (b ++ r)).take (a.length + j) = a ++ b.take j := by
    rw [List.take_append, List.take_of_length_le (by omega), Nat.add_sub_cancel_left, List.take_append_of_le_length (by omega)]
  have h2 : (a ++ (b ++ r)).drop (a.length + j + new.length) = b.drop (j + new.length) ++ r := by
    rw [List.drop_append, List.drop_eq_nil_of_le (by omega), List.nil_append, show a.length + j + new.length - a.length = j + new.length from by omega, List.drop_append_of_le_length h]
  simp only [overwrite, h1, h2, List.append_assoc]
theorem arr_over [ia : Inhabited α] (hf : ∀ a, (f a).length = esz) {l : List α} {i j : Nat} {new : List AV} {a : α} (h : i < l.length) (hj : j + new.length ≤ esz) (ha : overwrite (f l[i]!) j new = f a) : overwrite (arr f l) (i * esz + j) new = arr f (l.set i a) := by
  have e : arr f l = arr f (l.take i) ++ (f l[i]! ++ arr f (l.drop (i + 1))) := by
    rw [← arr_cons, ← arr_append, getElem!_pos l i h, ← List.drop_eq_getElem_cons h, List.take_append_drop]
  have hl : (arr f (l.take i)).length = i * esz := by rw [arr_length hf, List.length_take]; congr 1; omega
  rw [e, ← hl, over_append (by rw [hf]; exact hj), ha, ← arr_cons, ← arr_append, List.set_eq_take_append_cons_drop, if_pos h]
end
/-! Reading. -/
variable {α : Type} {ia : Inhabited α} {f : α → List AV} {esz : Nat}
theorem WO.lda {t i n : Nat} {ag : Bool} {x : IOpd} {l : List IOper} {pe : List AV} {lo : List (Nat × AV)} {hp : Heap} {df wr : List Nat} {c : List α} {v : AV} {Q : StW → Prop} (hx : (St.mk pe lo hp df).opd x = some (.vp ((arr f c).drop (i * esz))))
    (hf : ∀ a, (f a).length = esz) (hi : i < c.length) (hn : 0 < n ∧ 0 + n ≤ esz) (hv : partOf (f c[i]!) 0 n ag = some v) (h : WO M l ⟨⟨pe, (t, v) :: lo, hp, df⟩, wr⟩ Q) : WO M (⟨.l t, .load n ag x, none⟩ :: l) ⟨⟨pe, lo, hp, df⟩, wr⟩ Q :=
  WO.hlv (v := v) (h' := hp) (w' := []) (by simp only [heapA, hx, Option.bind_some, readAt, arr_part hf hi hn.2 hn.1, hv]) rfl rfl h
theorem WO.lsa {t i b n : Nat} {ag : Bool} {x : IOpd} {l : List IOper} {pe : List AV} {lo : List (Nat × AV)} {hp : Heap} {df wr : List Nat} {c : List α} {e : TypeId} {v : AV} {Q : StW → Prop} (hx : (St.mk pe lo hp df).opd x = some (.ptr b (0 + i * esz))) (hb : hp.at b = some (.cells (arr f c) e))
    (hf : ∀ a, (f a).length = esz) (hi : i < c.length) (hn : 0 < n ∧ 0 + n ≤ esz) (hv : partOf (f c[i]!) 0 n ag = some v) (h : WO M l ⟨⟨pe, (t, v) :: lo, hp, df⟩, wr⟩ Q) : WO M (⟨.l t, .load n ag x, none⟩ :: l) ⟨⟨pe, lo, hp, df⟩, wr⟩ Q :=
  WO.hlv (v := v) (h' := hp) (w' := []) (by simp only [heapA, hx, Option.bind_some, readAt, hb, Nat.zero_add, arr_part hf hi hn.2 hn.1, hv]) rfl rfl h
/-- A load whose cell is told. -/
theorem WO.ldx {t n : Nat} {ag : Bool} {x : IOpd} {l : List IOper} {pe : List AV} {lo : List (Nat × AV)} {hp : Heap} {df wr : List Nat} {a : AV} {c : List AV} {v : AV} {Q : StW → Prop} (hx : (St.mk pe lo hp df).opd x = some a) (hb : readAt hp a = some c) (hv : partOf c 0 n ag = some v)
    (h : WO M l ⟨⟨pe, (t, v) :: lo, hp, df⟩, wr⟩ Q) : WO M (⟨.l t, .load n ag x, none⟩ :: l) ⟨⟨pe, lo, hp, df⟩, wr⟩ Q :=
  WO.hlv (v := v) (h' := hp) (w' := []) (by simp only [heapA, hx, Option.bind_some, hb, hv]) rfl rfl h

/-! Writing. -/
theorem WO.stf {i j b n : Nat} {x y : IOpd} {l : List IOper} {pe : List AV} {lo : List (Nat × AV)} {hp : Heap} {df wr : List Nat} {c : List α} {a : α} {e : TypeId} {new : List AV} {Q : StW → Prop} (hx : (St.mk pe lo hp df).opd x = some (.ptr b (0 + i * esz + j))) (hy : ((St.mk pe lo hp df).opd y).bind AV.cells = some new) (hb : hp.at b = some (.cells (arr f c) e))
    (hf : ∀ a, (f a).length = esz) (hi : i < c.length) (hn : new.length = n ∧ j + n ≤ esz ∧ new.all oneA = true) (ha : overwrite (f c[i]!) j new = f a) (h : WO M l ⟨⟨pe, lo, hp.put b (some (.cells (arr f (c.set i a)) e)), df⟩, b :: wr⟩ Q) : WO M (⟨.no, .store n x y, none⟩ :: l) ⟨⟨pe, lo, hp, df⟩, wr⟩ Q := by
  obtain ⟨h1, h2, h3⟩ := hn
  have hle : i * esz + esz ≤ c.length * esz := by rw [← Nat.succ_mul]; exact Nat.mul_le_mul_right _ hi
  refine WO.hnv (v := undefA) (h' := hp.put b (some (.cells (arr f (c.set i a)) e))) (w' := [b]) ?_ rfl rfl h
  simp only [heapA, hx, hy, hb, Nat.zero_add]
  rw [if_pos ⟨h1, by rw [arr_length hf]; omega, h3⟩, arr_over hf hi (by omega) ha]
theorem WO.sta {i b n : Nat} {x y : IOpd} {l : List IOper} {pe : List AV} {lo : List (Nat × AV)} {hp : Heap} {df wr : List Nat} {c : List α} {a : α} {e : TypeId} {new : List AV} {Q : StW → Prop} (hx : (St.mk pe lo hp df).opd x = some (.ptr b (0 + i * esz))) (hy : ((St.mk pe lo hp df).opd y).bind AV.cells = some new) (hb : hp.at b = some (.cells (arr f c) e))
    (hf : ∀ a, (f a).length = esz) (hi : i < c.length) (hn : new.length = n ∧ 0 + n ≤ esz ∧ new.all oneA = true) (ha : overwrite (f c[i]!) 0 new = f a) (h : WO M l ⟨⟨pe, lo, hp.put b (some (.cells (arr f (c.set i a)) e)), df⟩, b :: wr⟩ Q) : WO M (⟨.no, .store n x y, none⟩ :: l) ⟨⟨pe, lo, hp, df⟩, wr⟩ Q :=
  WO.stf (j := 0) hx hy hb hf hi hn ha h

/-! New slices. -/
theorem WO.mks {t esz0 bytes : Nat} {elem : TypeId} {zero : List AV} {x y : IOpd} {l : List IOper} {pe : List AV} {lo : List (Nat × AV)} {hp : Heap} {df wr : List Nat} {k k' : IntKind} {a b : Int} {Q : StW → Prop} (hx : (St.mk pe lo hp df).opd x = some (.int k a)) (hy : (St.mk pe lo hp df).opd y = some (.int k' b))
    (hc : 0 ≤ a ∧ a ≤ b ∧ b.toNat * bytes ≤ roomLimit ∧ b ≤ 2 ^ 46 ∧ zero.length = esz0) (h : WO M l ⟨⟨pe, (t, .sl hp.length 0 a.toNat esz0 (some b.toNat)) :: lo, hp ++ [some (.cells (repeatZero zero b.toNat) elem)], df⟩, wr⟩ Q) :
    WO M (⟨.l t, .mkslice elem esz0 bytes zero x y, none⟩ :: l) ⟨⟨pe, lo, hp, df⟩, wr⟩ Q :=
  WO.hlv (v := .sl hp.length 0 a.toNat esz0 (some b.toNat)) (h' := hp ++ [some (.cells (repeatZero zero b.toNat) elem)]) (w' := []) (by simp only [heapA, hx, hy, Option.bind_some, asI]; rw [if_pos hc]) rfl rfl h

theorem at_lt {h : Heap} {b : Nat} {o : Blk} (hb : h.at b = some o) : b < h.length := by
  unfold Heap.at at hb
  cases hz : h[b]? with
  | none => rw [hz] at hb; cases hb
  | some z => exact (List.getElem?_eq_some_iff.1 hz).1
theorem at_new {h : Heap} {x : Option Blk} : Heap.at (h ++ [x]) h.length = x := by simp [Heap.at]
theorem at_old {h l : Heap} {b : Nat} {o : Blk} (hb : h.at b = some o) : Heap.at (h ++ l) b = some o := by
  have := at_lt hb
  simp only [Heap.at] at hb ⊢
  rw [List.getElem?_append_left this]; exact hb
theorem at_put {h : Heap} {b : Nat} {o : Option Blk} (hb : b < h.length) : Heap.at (h.put b o) b = o := by
  simp [Heap.at, Heap.put, hb]
theorem at_else {h : Heap} {a b : Nat} {o : Option Blk} {x : Blk} (hn : a ≠ b) (ha : h.at a = some x) : Heap.at (h.put b o) a = some x := by
  have : ¬ b = a := fun e => hn e.symm
  simp only [Heap.at, Heap.put, List.getElem?_set, if_neg this] at ha ⊢; exact ha
theorem put_length {h : Heap} {b : Nat} {o : Option Blk} : (h.put b o).length = h.length := by simp [Heap.put]

/-- What is appended. -/
theorem WO.apn {t esz0 bytes n : Nat} {elem : TypeId} {x y : IOpd} {l : List IOper} {pe : List AV} {lo : List (Nat × AV)} {hp : Heap} {df wr : List Nat} {b : AV} {new : List AV} {Q : StW → Prop} (hx : (St.mk pe lo hp df).opd x = some .nilsl) (hy : (St.mk pe lo hp df).opd y = some b) (hs : sliceCells hp b = some (new, n))
    (hc : new.length = n * esz0 ∧ 0 < bytes ∧ new.all oneA = true) (hn : 0 < n ∧ n * bytes ≤ roomLimit) (h : WO M l ⟨⟨pe, (t, .sl hp.length 0 n esz0 none) :: lo, hp ++ [some (.cells new elem)], df⟩, wr⟩ Q) : WO M (⟨.l t, .append elem esz0 bytes x y, none⟩ :: l) ⟨⟨pe, lo, hp, df⟩, wr⟩ Q := by
  refine WO.hlv (v := .sl hp.length 0 n esz0 none) (h' := hp ++ [some (.cells new elem)]) (w' := []) ?_ rfl rfl h
  simp only [heapA, hx, hy, appendA, hs, if_pos hc]
  rw [if_neg (by omega), if_pos hn.2]
theorem WO.apo {t esz0 bytes n c off len : Nat} {elem : TypeId} {x y : IOpd} {l : List IOper} {pe : List AV} {lo : List (Nat × AV)} {hp : Heap} {df wr : List Nat} {b : AV} {new old : List AV} {Q : StW → Prop} (hx : (St.mk pe lo hp df).opd x = some (.sl c off len esz0 none)) (hy : (St.mk pe lo hp df).opd y = some b) (hs : sliceCells hp b = some (new, n))
    (hc : new.length = n * esz0 ∧ 0 < bytes ∧ new.all oneA = true) (hn : 0 < n ∧ (len + n) * bytes ≤ roomLimit) (hb : hp.at c = some (.cells old elem)) (ho : old.length = off + len * esz0)
    (h : WO M l ⟨⟨pe, (t, .sl hp.length 0 (len + n) esz0 none) :: lo, hp.put c none ++ [some (.cells (old.drop off ++ new) elem)], df⟩, c :: wr⟩ Q) : WO M (⟨.l t, .append elem esz0 bytes x y, none⟩ :: l) ⟨⟨pe, lo, hp, df⟩, wr⟩ Q := by
  refine WO.hlv (v := .sl hp.length 0 (len + n) esz0 none) (h' := hp.put c none ++ [some (.cells (old.drop off ++ new) elem)]) (w' := [c]) ?_ rfl rfl h
  simp only [heapA, hx, hy, appendA, hs, if_pos hc, hb]
  rw [if_neg (by omega), if_pos ⟨trivial, hn.2⟩, if_pos ⟨ho, trivial⟩]

/-! Drawn regions that only read. -/
def IOp.ro : IOp → Bool
  | .load .. => true
  | op => !op.heapy
def Done.clean (d : Done) : Prop := d.wr = [] ∧ d.hi = d.lo

theorem keep_at' {T : List Nat} {h : Heap} {b : Nat} : Heap.at (keep T h 0) b = if T.contains b then h.at b else none := by
  unfold Heap.at
  rw [keep_get]
  cases h[b]? <;> simp
theorem merge_keep' {T : List Nat} {h : Heap} : mergeW [] h (keep T h 0) 0 = h := by
  apply List.ext_getElem?
  intro b
  rw [mergeW_get _ _ _ _ _ (by rw [keep_length]; exact Nat.le_refl _)]
  split
  · simp
  · rename_i hb
    rw [List.getElem?_eq_none (by rw [keep_length]; omega), List.getElem?_eq_none (by omega)]

def blkOf : Option AV → List Nat
  | some (.ptr b _) => [b]
  | some (.sl b _ _ _ _) => [b]
  | some (.map b) => [b]
  | _ => []
theorem touch_load {s : St} {n : Nat} {ag : Bool} {x : IOpd} : touchA s (.load n ag x) = some (blkOf (s.opd x)) := by
  simp only [touchA]
  cases s.opd x with
  | none => rfl
  | some a => cases a <;> rfl
theorem read_keep {h : Heap} {a : AV} : readAt (keep (blkOf (some a)) h 0) a = readAt h a := by
  cases a <;> first | rfl | skip
  simp [readAt, blkOf, keep_at']
theorem load_opA {call : CallF} {inv : InvF} {s : St} {n : Nat} {ag : Bool} {x : IOpd} {a : AV} (ha : s.opd x = some a) (hp' : Heap) : opA call inv { s with hp := hp' } (.load n ag x) = (readAt hp' a).bind fun l => (partOf l 0 n ag).map fun v => ⟨v, hp', []⟩ := by
  have hx' : St.opd { s with hp := hp' } x = some a := by rw [← ha]; cases x <;> rfl
  simp only [opA, IOp.heapy, if_true, heapA, hx', Option.bind_some]
  cases readAt hp' a with
  | none => rfl
  | some l => simp only [Option.bind_some]; cases partOf l 0 n ag <;> rfl

theorem draw_ro {call : CallF} {inv : InvF} : ∀ (l : List (IOper × List Nat)) (s : StW) (ds : List Done), l.all (fun p => p.1.op.ro) = true → (∀ d ∈ ds, d.clean) → drawA call inv l s ds = opersA call inv (l.map (·.1)) s
  | [], s, ds, _, _ => rfl
  | (o, un) :: l, s, ds, hl, hd => by
    simp only [List.all_cons, Bool.and_eq_true] at hl
    obtain ⟨ho, hl⟩ := hl
    have hcl : ∀ t, (∀ d ∈ ds ++ [(⟨t, [], s.s.hp.length, s.s.hp.length⟩ : Done)], d.clean) := fun t d hm => by
      rcases List.mem_append.1 hm with h1 | h1
      · exact hd d h1
      · simp only [List.mem_singleton] at h1; subst h1; exact ⟨rfl, rfl⟩
    simp only [drawA, List.map_cons, opersA]
    split
    · by_cases hh : o.op.heapy = true
      · have hop : ∃ n ag x, o.op = .load n ag x := by
          cases hq : o.op <;> rw [hq] at ho hh <;> first | (cases hh; done) | (cases ho; done) | exact ⟨_, _, _, rfl⟩
        obtain ⟨n, ag, x, hop⟩ := hop
        have hU : un.flatMap (fun j => (ds[j]?).elim [] Done.own) = [] := by
          rw [List.flatMap_eq_nil_iff]
          intro j _
          cases hj : ds[j]? with
          | none => rfl
          | some d =>
            obtain ⟨c1, c2⟩ := hd d (List.mem_of_getElem? hj)
            simp [Done.own, c1, c2]
        simp only [hop, IOp.heapy, if_true, touch_load, hU]
        have hdis : ∀ T, disj T [] = true := fun T => by simp [disj]
        simp only [hdis, if_true]
        cases ha : s.s.opd x with
        | none =>
          have e1 : ∀ hp', opA call inv { s.s with hp := hp' } (.load n ag x) = none := fun hp' => by
            have hx' : St.opd { s.s with hp := hp' } x = none := by rw [← ha]; cases x <;> rfl
            simp only [opA, IOp.heapy, if_true, heapA, hx', Option.bind_none]
          rw [e1, show opA call inv s.s (.load n ag x) = none from e1 s.s.hp]
        | some a =>
          have e2 := load_opA (call := call) (inv := inv) (n := n) (ag := ag) ha s.s.hp
          rw [load_opA ha, read_keep, show opA call inv s.s (.load n ag x) = _ from e2]
          cases readAt s.s.hp a with
          | none => rfl
          | some c =>
            simp only [Option.bind_some]
            cases partOf c 0 n ag with
            | none => rfl
            | some v =>
              simp only [Option.map_some, List.all_nil, List.isEmpty_nil, Bool.true_or, Bool.and_true, if_true, merge_keep', List.nil_append]
              have := draw_ro (call := call) (inv := inv) l ⟨{ s.s.put o.dst v with hp := s.s.hp }, s.wr⟩ (ds ++ [⟨some (blkOf (some a)), [], s.s.hp.length, s.s.hp.length⟩]) hl (hcl _)
              rw [← this]
              simp [keep_length]
      · have hh' : o.op.heapy = false := by simpa using hh
        rw [if_neg hh]
        have e2 : opA call inv s.s o.op = (pureA s.s o.op).map fun v => ⟨v, s.s.hp, []⟩ := by
          cases hq : o.op <;> rw [hq] at hh' <;> first | (cases hh'; done) | simp only [opA, IOp.heapy, Bool.false_eq_true, if_false]
        rw [e2]
        cases pureA s.s o.op with
        | none => rfl
        | some v =>
          simp only [Option.map_some, List.nil_append]
          have hput : ({ s.s.put o.dst v with hp := s.s.hp } : St) = s.s.put o.dst v := by cases o.dst <;> rfl
          rw [hput]
          exact draw_ro l _ _ hl (hcl _)
    · exact draw_ro l _ _ hl (hcl _)
    · rfl

theorem W.drawro {l : List (IOper × List Nat)} {pe : List AV} {lo : List (Nat × AV)} {hp : Heap} {df wr : List Nat} {Q : Ex → StW → Prop} (hl : l.all (fun p => p.1.op.ro) = true) (h : WO M (l.map (·.1)) ⟨⟨pe, [], hp, df⟩, wr⟩ (Q .normal)) : W M (.draw l) ⟨⟨pe, lo, hp, df⟩, wr⟩ Q := by
  obtain ⟨⟨n, s', h1, h2⟩⟩ := h
  exact W.draw ⟨⟨n, s', by rw [draw_ro l _ _ hl (by simp)]; exact h1, h2⟩⟩
end Go.Ab


/-
  Own work: the calculus of runs: drawn regions, one operation at a time.
-/
namespace Go.Ab
variable {M : Mach}

/-- Quotients and rests of numbers that are not negative. -/
theorem WO.quop {t : Nat} {x y : IOpd} {l : List IOper} {pe : List AV} {lo : List (Nat × AV)} {hp : Heap} {df wr : List Nat} {a b : Int} {Q : StW → Prop} (hx : (St.mk pe lo hp df).opd x = some (.int .i64 a)) (hy : (St.mk pe lo hp df).opd y = some (.int .i64 b))
    (ha : 0 ≤ a ∧ 0 < b) (hr : a < 9223372036854775808) (h : 0 ≤ a / b → a / b ≤ a → WO M l ⟨⟨pe, (t, .int .i64 (a / b)) :: lo, hp, df⟩, wr⟩ Q) : WO M (⟨.l t, .bin .quo x y, none⟩ :: l) ⟨⟨pe, lo, hp, df⟩, wr⟩ Q := by
  refine WO.quo hx hy ha.2 ⟨by omega, hr⟩ ?_
  rw [Int.tdiv_eq_ediv_of_nonneg ha.1]
  exact h (Int.ediv_nonneg ha.1 (Int.le_of_lt ha.2)) (Int.ediv_le_self _ ha.1)
theorem WO.remp {t : Nat} {x y : IOpd} {l : List IOper} {pe : List AV} {lo : List (Nat × AV)} {hp : Heap} {df wr : List Nat} {k : IntKind} {a b : Int} {Q : StW → Prop} (hx : (St.mk pe lo hp df).opd x = some (.int k a)) (hy : (St.mk pe lo hp df).opd y = some (.int k b))
    (ha : 0 ≤ a ∧ 0 < b) (h : 0 ≤ a % b → a % b < b → WO M l ⟨⟨pe, (t, .int k (a % b)) :: lo, hp, df⟩, wr⟩ Q) : WO M (⟨.l t, .bin .rem x y, none⟩ :: l) ⟨⟨pe, lo, hp, df⟩, wr⟩ Q := by
  refine WO.rem hx hy (by omega) ?_
  rw [Int.tmod_eq_emod_of_nonneg ha.1]
  exact h (Int.emod_nonneg _ (by omega)) (Int.emod_lt_of_pos _ ha.2)

/-- A call by its contract, in the local form. -/
theorem WO.cll {t : Nat} {f : IOpd} {args : List IOpd} {l : List IOper} {pe : List AV} {lo : List (Nat × AV)} {hp h' : Heap} {df wr wr' : List Nat} {Q : StW → Prop} {g : FuncId} {fi ca as : List AV} {v : AV} (hf : (St.mk pe lo hp df).opd f = some (.fn (.func g) fi ca)) (ha : (St.mk pe lo hp df).opds args = some as)
    (he : M.ext g (fi ++ as ++ ca) hp = some ⟨v, h', wr'⟩) (h : WO M l ⟨⟨pe, (t, v) :: lo, h', df⟩, wr' ++ wr⟩ Q) : WO M (⟨.l t, .call f args, none⟩ :: l) ⟨⟨pe, lo, hp, df⟩, wr⟩ Q := WO.callx hf ha he h
theorem WD.nil {s : StW} {ds : List Done} {Q : StW → Prop} (h : Q s) : WD M [] s ds Q := ⟨⟨0, s, rfl, h⟩⟩

def Done.key (d : Done) : Option (List Nat) × List Nat := (d.touch, d.own)
theorem all_ext {α : Type} {l : List α} {f g : α → Bool} (h : ∀ x, f x = g x) : l.all f = l.all g := by rw [show f = g from funext h]
theorem draw_congr {call : CallF} {inv : InvF} : ∀ (l : List (IOper × List Nat)) (s : StW) (ds ds' : List Done), ds.map Done.key = ds'.map Done.key → drawA call inv l s ds = drawA call inv l s ds'
  | [], _, _, _, _ => rfl
  | (o, un) :: l, s, ds, ds', hk => by
    have h1 : ∀ j : Nat, (ds[j]?).elim [] Done.own = (ds'[j]?).elim [] Done.own := fun j => by
      have := congrArg (fun x : List (Option (List Nat) × List Nat) => x[j]?) hk
      simp only [List.getElem?_map] at this
      cases h3 : ds[j]? <;> cases h4 : ds'[j]? <;> rw [h3, h4] at this <;> simp [Done.key] at this ⊢
      exact this.2
    have h2 : ∀ j : Nat, (ds[j]?).map Done.touch = (ds'[j]?).map Done.touch := fun j => by
      have := congrArg (fun x : List (Option (List Nat) × List Nat) => x[j]?) hk
      simp only [List.getElem?_map] at this
      cases h3 : ds[j]? <;> cases h4 : ds'[j]? <;> rw [h3, h4] at this <;> simp [Done.key] at this ⊢
      exact this.1
    have h7 : (fun j : Nat => (ds[j]?).elim [] Done.own) = (fun j : Nat => (ds'[j]?).elim [] Done.own) := funext h1
    have h8 : ∀ d s, drawA call inv l s (ds ++ [d]) = drawA call inv l s (ds' ++ [d]) := fun d s => draw_congr l s _ _ (by simp [hk])
    unfold drawA
    simp only [h7, h8]
    cases wantedA s.s o.guard with
    | none => rfl
    | some t =>
      cases t with
      | false => rfl
      | true =>
        refine ite_congr rfl (fun _ => ite_congr rfl (fun _ => ?_) (fun _ => rfl)) (fun _ => rfl)
        split
        · refine ite_congr (congrArg (fun b => b = true) (congrArg (fun b => _ && b) (congrArg (fun b => _ || b) (all_ext ?_)))) (fun _ => rfl) (fun _ => rfl)
          intro j
          have := h2 j
          cases h3 : ds[j]? <;> cases h4 : ds'[j]? <;> rw [h3, h4] at this <;> simp at this ⊢
          rw [this]
        · rfl

theorem WD.norm {l : List (IOper × List Nat)} {s : StW} {ds : List Done} {d d' : Done} {Q : StW → Prop} (hk : d.key = d'.key) (h : WD M l s (ds ++ [d]) Q) : WD M l s (ds ++ [d']) Q := by
  obtain ⟨⟨n, s', h1, h2⟩⟩ := h
  exact ⟨⟨n, s', by rw [draw_congr l s (ds ++ [d']) (ds ++ [d]) (by simp [hk])]; exact h1, h2⟩⟩

/-- An operation that does not look at the heap. -/
theorem WD.pure0 {o : IOper} {un : List Nat} {l : List (IOper × List Nat)} {s : StW} {ds : List Done} {Q : StW → Prop} (hh : o.op.heapy = false) (h : WO M [o] s fun s' => WD M l s' (ds ++ [⟨some [], [], s.s.hp.length, s.s.hp.length⟩]) Q) : WD M ((o, un) :: l) s ds Q := by
  obtain ⟨⟨n, s1, h1, ⟨⟨m, s', h2, h3⟩⟩⟩⟩ := h
  refine ⟨⟨max n m, s', ?_, h3⟩⟩
  have h1' := opersA_le (inv := M.inv) (call_up (Nat.le_max_left n m)) _ _ _ h1
  have h2' := drawA_le (inv := M.inv) (call_up (Nat.le_max_right n m)) _ _ _ _ h2
  simp only [opersA] at h1'
  have e2 : opA (M.call (max n m)) M.inv s.s o.op = (pureA s.s o.op).map fun v => ⟨v, s.s.hp, []⟩ := by
    cases hq : o.op <;> rw [hq] at hh <;> first | (cases hh; done) | simp only [opA, IOp.heapy, Bool.false_eq_true, if_false]
  rw [e2] at h1'
  cases hw : wantedA s.s o.guard with
  | none => rw [hw] at h1'; cases h1'
  | some t =>
    rw [hw] at h1'
    cases t with
    | true =>
      simp only [drawA, hw, hh, Bool.false_eq_true, if_false]
      cases hp : pureA s.s o.op with
      | none => rw [hp] at h1'; cases h1'
      | some v =>
        rw [hp] at h1'
        simp only [Option.map_some, List.nil_append, Option.some.injEq] at h1'
        have hput : ({ s.s.put o.dst v with hp := s.s.hp } : St) = s.s.put o.dst v := by cases o.dst <;> rfl
        rw [hput] at h1'
        subst h1'
        exact h2'
    | false =>
      simp only [Option.some.injEq] at h1'
      simp only [drawA, hw]
      subst h1'
      exact h2'

theorem merge_keep_put' {T : List Nat} {h : Heap} {b : Nat} {o : Option Blk} : mergeW [b] h (Heap.put (keep T h 0) b o) 0 = Heap.put h b o := by
  apply List.ext_getElem?
  intro c
  rw [mergeW_get _ _ _ _ _ (by simp [Heap.put, keep_length])]
  simp only [Heap.put, List.getElem?_set, keep_length, keep_get]
  by_cases hc : c < h.length
  · rw [if_pos hc]
    by_cases e : b = c
    · subst e; simp [hc]
    · have : c ≠ b := fun x => e x.symm
      simp [e, this]
  · rw [if_neg hc, List.getElem?_eq_none (Nat.le_of_not_lt hc)]
    by_cases e : b = c
    · subst e; simp [hc]
    · simp [e]

/-- A load; a store. -/
theorem WD.load0 {d : Dst} {n : Nat} {ag : Bool} {x : IOpd} {un : List Nat} {l : List (IOper × List Nat)} {s : StW} {ds : List Done} {a : AV} {T : List Nat} {Q : StW → Prop} (ha : s.s.opd x = some a) (hT : blkOf (some a) = T) (hd : disj T (un.flatMap fun j => (ds[j]?).elim [] Done.own) = true)
    (h : WO M [⟨d, .load n ag x, none⟩] s fun s' => WD M l s' (ds ++ [⟨some T, [], s.s.hp.length, s.s.hp.length⟩]) Q) : WD M ((⟨d, .load n ag x, none⟩, un) :: l) s ds Q := by
  obtain ⟨⟨k, s1, h1, ⟨⟨m, s', h2, h3⟩⟩⟩⟩ := h
  refine ⟨⟨max k m, s', ?_, h3⟩⟩
  have h1' := opersA_le (inv := M.inv) (call_up (Nat.le_max_left k m)) _ _ _ h1
  have h2' := drawA_le (inv := M.inv) (call_up (Nat.le_max_right k m)) _ _ _ _ h2
  simp only [opersA, wantedA] at h1'
  subst hT
  simp only [drawA, wantedA, IOp.heapy, if_true, touch_load, ha, hd]
  rw [load_opA ha, read_keep]
  rw [show opA (M.call (max k m)) M.inv s.s (.load n ag x) = _ from load_opA ha s.s.hp] at h1'
  cases hr : readAt s.s.hp a with
  | none => rw [hr] at h1'; cases h1'
  | some c =>
    rw [hr] at h1'
    simp only [Option.bind_some] at h1' ⊢
    cases hp : partOf c 0 n ag with
    | none => rw [hp] at h1'; cases h1'
    | some v =>
      rw [hp] at h1'
      simp only [Option.map_some, List.nil_append, Option.some.injEq] at h1'
      simp only [Option.map_some, List.all_nil, List.isEmpty_nil, Bool.true_or, Bool.and_true, if_true, merge_keep', List.nil_append, keep_length]
      subst h1'
      exact h2'

theorem WD.store0 {n b off : Nat} {x y : IOpd} {un : List Nat} {l : List (IOper × List Nat)} {s : StW} {ds : List Done} {Q : StW → Prop} (ha : s.s.opd x = some (.ptr b off)) (hd : disj [b] (un.flatMap fun j => (ds[j]?).elim [] Done.own) = true)
    (hu : un.all (fun j => match ds[j]? with | some d => (match d.touch with | some T => disj [b] T | none => false) | none => false) = true)
    (h : WO M [⟨.no, .store n x y, none⟩] s fun s' => WD M l s' (ds ++ [⟨some [b], [b], s.s.hp.length, s.s.hp.length⟩]) Q) : WD M ((⟨.no, .store n x y, none⟩, un) :: l) s ds Q := by
  obtain ⟨⟨k, s1, h1, ⟨⟨m, s', h2, h3⟩⟩⟩⟩ := h
  refine ⟨⟨max k m, s', ?_, h3⟩⟩
  have h1' := opersA_le (inv := M.inv) (call_up (Nat.le_max_left k m)) _ _ _ h1
  have h2' := drawA_le (inv := M.inv) (call_up (Nat.le_max_right k m)) _ _ _ _ h2
  simp only [opersA, wantedA, opA, IOp.heapy, if_true, heapA, ha] at h1'
  have hx' : ∀ hp', St.opd { s.s with hp := hp' } x = some (.ptr b off) := fun hp' => by rw [← ha]; cases x <;> rfl
  have hy' : ∀ hp', St.opd { s.s with hp := hp' } y = s.s.opd y := fun hp' => by cases y <;> rfl
  have hk : Heap.at (keep [b] s.s.hp 0) b = s.s.hp.at b := by simp [keep_at']
  simp only [drawA, wantedA, IOp.heapy, if_true, touchA, ha, hd, opA, heapA, hx', hy']
  cases hy : s.s.opd y with
  | none => rw [hy] at h1'; cases h1'
  | some yv =>
    rw [hy] at h1'
    simp only [Option.bind_some] at h1' ⊢
    cases hc : yv.cells with
    | none => rw [hc] at h1'; cases h1'
    | some new =>
      rw [hc] at h1'
      simp only at h1' ⊢
      cases hb : s.s.hp.at b with
      | none => rw [hb] at h1'; cases h1'
      | some o =>
        rw [hb] at h1'
        cases o with
        | cells c e =>
          simp only at h1' ⊢
          by_cases hcond : new.length = n ∧ off + n ≤ c.length ∧ new.all oneA = true
          · simp only [if_pos hcond, Option.some.injEq] at h1'
            simp only [if_pos hcond, List.all_cons, List.all_nil, Bool.and_true, List.isEmpty_cons, Bool.false_or, hk, hb, Option.isSome_some, merge_keep_put', put_length, keep_length]
            subst h1'
            rw [if_pos (show _ = true by rw [Bool.true_and]; exact hu)]
            exact h2'
          · simp only [if_neg hcond] at h1'
            cases h1'
        | map _ => cases h1'
        | iter _ _ => cases h1'
        | dfr => cases h1'
        | hole => cases h1'
        | loop _ _ _ _ _ _ => cases h1'

/-- A call by its contract that turns no block of the caller's, where none of the earlier unordered operations has made or turned a block. -/
theorem WD.call1 {d : Dst} {f : IOpd} {args : List IOpd} {un : List Nat} {l : List (IOper × List Nat)} {s : StW} {ds : List Done} {Q : StW → Prop} {g : FuncId} {fi ca as : List AV} {v : AV} {hn : Heap} (hf : s.s.opd f = some (.fn (.func g) fi ca)) (ha : s.s.opds args = some as)
    (hU : (un.flatMap fun j => (ds[j]?).elim [] Done.own) = []) (he : M.ext g (fi ++ as ++ ca) s.s.hp = some ⟨v, s.s.hp ++ hn, []⟩)
    (h : WD M l ⟨{ s.s.put d v with hp := s.s.hp ++ hn }, s.wr⟩ (ds ++ [⟨none, [], s.s.hp.length, s.s.hp.length + hn.length⟩]) Q) : WD M ((⟨d, .call f args, none⟩, un) :: l) s ds Q := by
  obtain ⟨⟨m, s', h2, h3⟩⟩ := h
  refine ⟨⟨m, s', ?_, h3⟩⟩
  have hm : mask s.s.hp [] = s.s.hp := rfl
  have hcall : opA (M.call m) M.inv { s.s with hp := s.s.hp } (.call f args) = some ⟨v, s.s.hp ++ hn, []⟩ := by
    simp only [opA, hf, ha, callWith, he]
  have hmerge : mergeW [] s.s.hp (s.s.hp ++ hn) 0 = s.s.hp ++ hn := by
    apply List.ext_getElem?
    intro c
    rw [mergeW_get _ _ _ _ _ (by simp)]
    split
    · rename_i hc; simp [List.getElem?_append_left hc]
    · rfl
  simp only [drawA, wantedA, IOp.heapy, if_true, touchA, hU, hm]
  rw [hcall]
  simp only [List.all_nil, List.isEmpty_nil, Bool.true_or, Bool.and_true, if_true, hmerge, List.nil_append, List.length_append]
  exact h2

theorem done_key {t : Option (List Nat)} {w : List Nat} {n : Nat} : Done.key ⟨t, w, n, n⟩ = Done.key ⟨t, w, 0, 0⟩ := by simp [Done.key, Done.own]
theorem WD.pure1 {o : IOper} {un : List Nat} {l : List (IOper × List Nat)} {s : StW} {ds : List Done} {Q : StW → Prop} (hh : o.op.heapy = false) (h : WO M [o] s fun s' => WD M l s' (ds ++ [⟨some [], [], 0, 0⟩]) Q) : WD M ((o, un) :: l) s ds Q :=
  WD.pure0 hh (h.mono fun _ h => h.norm done_key.symm)
theorem WD.load1 {d : Dst} {n : Nat} {ag : Bool} {x : IOpd} {un : List Nat} {l : List (IOper × List Nat)} {s : StW} {ds : List Done} {a : AV} {T : List Nat} {Q : StW → Prop} (ha : s.s.opd x = some a) (hT : blkOf (some a) = T) (hd : disj T (un.flatMap fun j => (ds[j]?).elim [] Done.own) = true)
    (h : WO M [⟨d, .load n ag x, none⟩] s fun s' => WD M l s' (ds ++ [⟨some T, [], 0, 0⟩]) Q) : WD M ((⟨d, .load n ag x, none⟩, un) :: l) s ds Q :=
  WD.load0 ha hT hd (h.mono fun _ h => h.norm done_key.symm)
theorem WD.store1 {n b off : Nat} {x y : IOpd} {un : List Nat} {l : List (IOper × List Nat)} {s : StW} {ds : List Done} {Q : StW → Prop} (ha : s.s.opd x = some (.ptr b off)) (hd : disj [b] (un.flatMap fun j => (ds[j]?).elim [] Done.own) = true)
    (hu : un.all (fun j => match ds[j]? with | some d => (match d.touch with | some T => disj [b] T | none => false) | none => false) = true)
    (h : WO M [⟨.no, .store n x y, none⟩] s fun s' => WD M l s' (ds ++ [⟨some [b], [b], 0, 0⟩]) Q) : WD M ((⟨.no, .store n x y, none⟩, un) :: l) s ds Q :=
  WD.store0 ha hd hu (h.mono fun _ h => h.norm done_key.symm)
end Go.Ab


/-
  Own work: the calculus of runs: maps, new blocks in drawn regions, slices as arguments of contracts.
-/
namespace Go.Ab
variable {M : Mach}

/-- A guard that was itself left out. -/
theorem WO.sU {t : Nat} {op : IOp} {x : IOpd} {want : Bool} {l : List IOper} {pe : List AV} {lo : List (Nat × AV)} {hp : Heap} {df wr : List Nat} {Q : StW → Prop} (hx : (St.mk pe lo hp df).opd x = some (.tup [])) (h : WO M l ⟨⟨pe, (t, undefA) :: lo, hp, df⟩, wr⟩ Q) : WO M (⟨.l t, op, some (x, want)⟩ :: l) ⟨⟨pe, lo, hp, df⟩, wr⟩ Q := WO.skipT hx h

theorem WO.neg {t : Nat} {x : IOpd} {l : List IOper} {pe : List AV} {lo : List (Nat × AV)} {hp : Heap} {df wr : List Nat} {a : Int} {Q : StW → Prop} (hx : (St.mk pe lo hp df).opd x = some (.int .i64 a))
    (hr : -9223372036854775808 < a ∧ a ≤ 9223372036854775808) (h : WO M l ⟨⟨pe, (t, .int .i64 (-a)) :: lo, hp, df⟩, wr⟩ Q) : WO M (⟨.l t, .un .neg x, none⟩ :: l) ⟨⟨pe, lo, hp, df⟩, wr⟩ Q :=
  WO.op (WP.pure (v := .int .i64 (-a)) rfl (by
    have : IntKind.i64.wrap (0 - a) = -a := by rw [show 0 - a = -a from by omega]; exact i64_wrap (by omega)
    simp [pureA, hx, unA] at this ⊢; exact this) h)
/-- A call by its contract that makes nothing, in a drawn region. -/
theorem WD.call0 {d : Dst} {f : IOpd} {args : List IOpd} {un : List Nat} {l : List (IOper × List Nat)} {s : StW} {ds : List Done} {Q : StW → Prop} {g : FuncId} {fi ca as : List AV} {v : AV} (hf : s.s.opd f = some (.fn (.func g) fi ca)) (ha : s.s.opds args = some as)
    (hU : (un.flatMap fun j => (ds[j]?).elim [] Done.own) = []) (he : M.ext g (fi ++ as ++ ca) s.s.hp = some ⟨v, s.s.hp, []⟩)
    (h : WD M l ⟨s.s.put d v, s.wr⟩ (ds ++ [⟨none, [], 0, 0⟩]) Q) : WD M ((⟨d, .call f args, none⟩, un) :: l) s ds Q := by
  have hp : ({ s.s.put d v with hp := s.s.hp ++ [] } : St) = s.s.put d v := by cases d <;> simp [St.put]
  refine WD.call1 (hn := []) hf ha hU (by simpa using he) ?_
  rw [hp]
  exact h.norm (by simp [Done.key, Done.own])
theorem WD.cl0 {t : Nat} {f : IOpd} {args : List IOpd} {un : List Nat} {l : List (IOper × List Nat)} {pe : List AV} {lo : List (Nat × AV)} {hp : Heap} {df wr : List Nat} {ds : List Done} {Q : StW → Prop} {g : FuncId} {fi ca as : List AV} {v : AV} (hf : (St.mk pe lo hp df).opd f = some (.fn (.func g) fi ca)) (ha : (St.mk pe lo hp df).opds args = some as)
    (hU : (un.flatMap fun j => (ds[j]?).elim [] Done.own) = []) (he : M.ext g (fi ++ as ++ ca) hp = some ⟨v, hp, []⟩)
    (h : WD M l ⟨⟨pe, (t, v) :: lo, hp, df⟩, wr⟩ (ds ++ [⟨none, [], 0, 0⟩]) Q) : WD M ((⟨.l t, .call f args, none⟩, un) :: l) ⟨⟨pe, lo, hp, df⟩, wr⟩ ds Q := WD.call0 hf ha hU he h
theorem WD.cl1 {t : Nat} {f : IOpd} {args : List IOpd} {un : List Nat} {l : List (IOper × List Nat)} {pe : List AV} {lo : List (Nat × AV)} {hp hn : Heap} {df wr : List Nat} {ds : List Done} {Q : StW → Prop} {g : FuncId} {fi ca as : List AV} {v : AV} (hf : (St.mk pe lo hp df).opd f = some (.fn (.func g) fi ca)) (ha : (St.mk pe lo hp df).opds args = some as)
    (hU : (un.flatMap fun j => (ds[j]?).elim [] Done.own) = []) (he : M.ext g (fi ++ as ++ ca) hp = some ⟨v, hp ++ hn, []⟩)
    (h : WD M l ⟨⟨pe, (t, v) :: lo, hp ++ hn, df⟩, wr⟩ (ds ++ [⟨none, [], hp.length, hp.length + hn.length⟩]) Q) : WD M ((⟨.l t, .call f args, none⟩, un) :: l) ⟨⟨pe, lo, hp, df⟩, wr⟩ ds Q := WD.call1 hf ha hU he h

/-- Guards in drawn regions. -/
theorem WD.take {d : Dst} {op : IOp} {x : IOpd} {t want : Bool} {un : List Nat} {l : List (IOper × List Nat)} {s : StW} {ds : List Done} {Q : StW → Prop} (hx : s.s.opd x = some (.bool t)) (ht : (t == want) = true) (h : WD M ((⟨d, op, none⟩, un) :: l) s ds Q) : WD M ((⟨d, op, some (x, want)⟩, un) :: l) s ds Q := by
  obtain ⟨⟨n, s', h1, h2⟩⟩ := h
  refine ⟨⟨n, s', ?_, h2⟩⟩
  simp only [drawA, wantedA, hx, ht] at h1 ⊢
  exact h1
theorem WD.skip {d : Dst} {op : IOp} {x : IOpd} {v : AV} {want : Bool} {un : List Nat} {l : List (IOper × List Nat)} {s : StW} {ds : List Done} {Q : StW → Prop} (hx : s.s.opd x = some v) (ht : v = .bool !want ∨ v = .tup []) (h : WD M l ⟨s.s.put d undefA, s.wr⟩ (ds ++ [⟨some [], [], 0, 0⟩]) Q) : WD M ((⟨d, op, some (x, want)⟩, un) :: l) s ds Q := by
  obtain ⟨⟨n, s', h1, h2⟩⟩ := h.norm (d' := ⟨some [], [], s.s.hp.length, s.s.hp.length⟩) done_key.symm
  refine ⟨⟨n, s', ?_, h2⟩⟩
  have hw : wantedA s.s (some (x, want)) = some false := by
    rcases ht with rfl | rfl
    · simp only [wantedA, hx]; cases want <;> rfl
    · simp only [wantedA, hx]
  simp only [drawA, hw]
  exact h1
theorem WD.gT {d : Dst} {op : IOp} {x : IOpd} {un : List Nat} {l : List (IOper × List Nat)} {s : StW} {ds : List Done} {Q : StW → Prop} (hx : s.s.opd x = some (.bool true)) (h : WD M ((⟨d, op, none⟩, un) :: l) s ds Q) : WD M ((⟨d, op, some (x, true)⟩, un) :: l) s ds Q := WD.take hx rfl h
theorem WD.gF {d : Dst} {op : IOp} {x : IOpd} {un : List Nat} {l : List (IOper × List Nat)} {s : StW} {ds : List Done} {Q : StW → Prop} (hx : s.s.opd x = some (.bool false)) (h : WD M ((⟨d, op, none⟩, un) :: l) s ds Q) : WD M ((⟨d, op, some (x, false)⟩, un) :: l) s ds Q := WD.take hx rfl h
theorem WD.sT {t : Nat} {op : IOp} {x : IOpd} {un : List Nat} {l : List (IOper × List Nat)} {pe : List AV} {lo : List (Nat × AV)} {hp : Heap} {df wr : List Nat} {ds : List Done} {Q : StW → Prop} (hx : (St.mk pe lo hp df).opd x = some (.bool false)) (h : WD M l ⟨⟨pe, (t, undefA) :: lo, hp, df⟩, wr⟩ (ds ++ [⟨some [], [], 0, 0⟩]) Q) : WD M ((⟨.l t, op, some (x, true)⟩, un) :: l) ⟨⟨pe, lo, hp, df⟩, wr⟩ ds Q := WD.skip hx (.inl rfl) h
theorem WD.sF {t : Nat} {op : IOp} {x : IOpd} {un : List Nat} {l : List (IOper × List Nat)} {pe : List AV} {lo : List (Nat × AV)} {hp : Heap} {df wr : List Nat} {ds : List Done} {Q : StW → Prop} (hx : (St.mk pe lo hp df).opd x = some (.bool true)) (h : WD M l ⟨⟨pe, (t, undefA) :: lo, hp, df⟩, wr⟩ (ds ++ [⟨some [], [], 0, 0⟩]) Q) : WD M ((⟨.l t, op, some (x, false)⟩, un) :: l) ⟨⟨pe, lo, hp, df⟩, wr⟩ ds Q := WD.skip hx (.inl rfl) h
theorem WD.sU {t : Nat} {op : IOp} {x : IOpd} {want : Bool} {un : List Nat} {l : List (IOper × List Nat)} {pe : List AV} {lo : List (Nat × AV)} {hp : Heap} {df wr : List Nat} {ds : List Done} {Q : StW → Prop} (hx : (St.mk pe lo hp df).opd x = some (.tup [])) (h : WD M l ⟨⟨pe, (t, undefA) :: lo, hp, df⟩, wr⟩ (ds ++ [⟨some [], [], 0, 0⟩]) Q) : WD M ((⟨.l t, op, some (x, want)⟩, un) :: l) ⟨⟨pe, lo, hp, df⟩, wr⟩ ds Q := WD.skip hx (.inr rfl) h

def IOp.newOp : IOp → Bool
  | .alloc .. | .box .. | .bslice .. | .mkslice .. | .mkmap => true
  | _ => false
theorem opd_hp {s : St} {hp' : Heap} (x : IOpd) : St.opd { s with hp := hp' } x = s.opd x := by cases x <;> rfl
theorem parts_hp {s : St} {hp' : Heap} : ∀ (ps : List (Nat × Nat × IOpd)), St.parts { s with hp := hp' } ps = s.parts ps
  | [] => rfl
  | (o, n, x) :: r => by simp only [St.parts, opd_hp, parts_hp r]

/-- What a new block's operation gives hangs on the heap's length alone. -/
theorem new_opA {call : CallF} {inv : InvF} {s : St} {op : IOp} (hn : op.newOp = true) {r : HR} (hq : opA call inv s op = some r) : ∃ o, r.h = s.hp ++ [o] ∧ r.wr = [] ∧ ∀ hp' : Heap, hp'.length = s.hp.length → opA call inv { s with hp := hp' } op = some ⟨r.v, hp' ++ [o], []⟩ := by
  cases op <;> first | (cases hn; done) | skip
  case alloc e z =>
    simp only [opA, IOp.heapy, if_true, heapA] at hq
    cases hq
    exact ⟨_, rfl, rfl, fun hp' hl => by simp only [opA, IOp.heapy, if_true, heapA, hl]⟩
  case box e n x =>
    simp only [opA, IOp.heapy, if_true, heapA] at hq
    split at hq
    · rename_i c hc
      split at hq
      · rename_i hlen
        cases hq
        exact ⟨_, rfl, rfl, fun hp' hl => by simp only [opA, IOp.heapy, if_true, heapA, opd_hp, hc, hl, if_pos hlen]⟩
      · cases hq
    · cases hq
  case bslice e len esz z ps =>
    simp only [opA, IOp.heapy, if_true, heapA] at hq
    split at hq
    · rename_i vs hvs
      split at hq
      · rename_i c hc
        split at hq
        · rename_i hlen
          cases hq
          exact ⟨_, rfl, rfl, fun hp' hl => by simp only [opA, IOp.heapy, if_true, heapA, parts_hp, hvs, hc, hl, if_pos hlen]⟩
        · cases hq
      · cases hq
    · cases hq
  case mkmap =>
    simp only [opA, IOp.heapy, if_true, heapA] at hq
    cases hq
    exact ⟨_, rfl, rfl, fun hp' hl => by simp only [opA, IOp.heapy, if_true, heapA, hl]⟩
  case mkslice e esz by' z a b =>
    simp only [opA, IOp.heapy, if_true, heapA] at hq
    split at hq
    · rename_i x y hx hy
      split at hq
      · rename_i hc
        cases hq
        exact ⟨_, rfl, rfl, fun hp' hl => by simp only [opA, IOp.heapy, if_true, heapA, opd_hp, hx, hy, hl, if_pos hc]⟩
      · cases hq
    · cases hq

theorem WD.new1 {d : Dst} {op : IOp} {un : List Nat} {l : List (IOper × List Nat)} {s : StW} {ds : List Done} {Q : StW → Prop} (hn : op.newOp = true) (h : WO M [⟨d, op, none⟩] s fun s' => WD M l s' (ds ++ [⟨some [], [], s.s.hp.length, s.s.hp.length + 1⟩]) Q) : WD M ((⟨d, op, none⟩, un) :: l) s ds Q := by
  obtain ⟨⟨k, s1, h1, ⟨⟨m, s', h2, h3⟩⟩⟩⟩ := h
  refine ⟨⟨max k m, s', ?_, h3⟩⟩
  have h1' := opersA_le (inv := M.inv) (call_up (Nat.le_max_left k m)) _ _ _ h1
  have h2' := drawA_le (inv := M.inv) (call_up (Nat.le_max_right k m)) _ _ _ _ h2
  simp only [opersA, wantedA] at h1'
  have ht : touchA s.s op = some [] := by cases op <;> first | (cases hn; done) | rfl
  have hh : op.heapy = true := by cases op <;> first | (cases hn; done) | rfl
  have hd : ∀ U, disj [] U = true := fun U => rfl
  cases hq : opA (M.call (max k m)) M.inv s.s op with
  | none => rw [hq] at h1'; cases h1'
  | some r =>
    rw [hq] at h1'
    obtain ⟨o, e1, e2, e3⟩ := new_opA hn hq
    simp only [Option.some.injEq] at h1'
    simp only [drawA, wantedA, hh, if_true, ht, hd, e3 (keep [] s.s.hp 0) (keep_length _ _ _)]
    have hm : mergeW [] s.s.hp (keep [] s.s.hp 0 ++ [o]) 0 = s.s.hp ++ [o] := by
      apply List.ext_getElem?
      intro c
      rw [mergeW_get _ _ _ _ _ (by simp [keep_length])]
      split
      · rename_i hc; rw [List.getElem?_append_left hc]; simp
      · rename_i hc
        rw [List.getElem?_append_right (by rw [keep_length]; omega), List.getElem?_append_right (by omega), keep_length]
    simp only [List.all_nil, List.isEmpty_nil, Bool.true_or, Bool.and_true, if_true, hm, List.nil_append, List.length_append, List.length_singleton, keep_length]
    rw [e1, e2] at h1'
    subst h1'
    exact h2'

/-! Slices as arguments. -/
def cellsAt (h : Heap) : AV → Option (List AV × Nat)
  | .str _ => none
  | .sl b off n esz _ => match h.at b with
    | some (.cells l _) => (cut l off (n * esz)).map (·, n)
    | _ => none
  | v => sliceCells h v
def decInts : List AV → Option (List Int)
  | [] => some []
  | .int .i64 n :: r => match decInts r with
    | some l => some (n :: l)
    | none => none
  | _ => none
def decStrs : List AV → Option (List (List UInt8))
  | [] => some []
  | .str n :: r => match decStrs r with
    | some l => some (n :: l)
    | none => none
  | _ => none
def strs (l : List (List UInt8)) : List AV := arr (fun x => [.str x]) l
theorem decInts_eq : ∀ {c : List AV} {l : List Int}, decInts c = some l → c = ints l
  | [], l, h => by cases h; rfl
  | v :: r, l, h => by
    unfold decInts at h
    split at h
    · rename_i e; cases e
    · rename_i n r' e
      cases e
      split at h
      · rename_i l' hl
        cases h
        rw [decInts_eq hl]; rfl
      · cases h
    · cases h
theorem decInts_ints : ∀ l : List Int, decInts (ints l) = some l
  | [] => rfl
  | n :: l => by
    have := decInts_ints l
    show decInts (.int .i64 n :: ints l) = _
    rw [decInts, this]
theorem decStrs_eq : ∀ {c : List AV} {l : List (List UInt8)}, decStrs c = some l → c = strs l
  | [], l, h => by cases h; rfl
  | v :: r, l, h => by
    unfold decStrs at h
    split at h
    · rename_i e; cases e
    · rename_i n r' e
      cases e
      split at h
      · rename_i l' hl
        cases h
        rw [decStrs_eq hl]; rfl
      · cases h
    · cases h
theorem decStrs_strs : ∀ l : List (List UInt8), decStrs (strs l) = some l
  | [] => rfl
  | n :: l => by
    have := decStrs_strs l
    show decStrs (.str n :: strs l) = _
    rw [decStrs, this]

/-- The integers that a readable slice holds. -/
def intsAt (h : Heap) (v : AV) : Option (List Int) := match cellsAt h v with
  | some (c, n) => match decInts c with
    | some l => if l.length = n then some l else none
    | none => none
  | none => none
def strsAt (h : Heap) (v : AV) : Option (List (List UInt8)) := match cellsAt h v with
  | some (c, n) => match decStrs c with
    | some l => if l.length = n then some l else none
    | none => none
  | none => none

theorem sl_of_cells {α : Type} {f : α → List AV} {h : Heap} {v : AV} {l : List α} (hc : cellsAt h v = some (arr f l, l.length)) : Sl f h v l := by
  cases v <;> simp only [cellsAt, sliceCells] at hc <;> try (cases hc; done)
  case nilsl =>
    simp only [Option.some.injEq, Prod.mk.injEq] at hc
    exact .inl ⟨rfl, List.eq_nil_of_length_eq_zero hc.2.symm⟩
  case sl b off len esz cap =>
    split at hc
    · rename_i c e hb
      simp only [Option.map_eq_some_iff, Prod.mk.injEq] at hc
      obtain ⟨c', h1, h2, h3⟩ := hc
      subst h3; subst h2
      exact .inr (.inr ⟨b, off, esz, cap, c, e, rfl, hb, h1⟩)
    · cases hc
  case vs c len cap =>
    simp only [Option.some.injEq, Prod.mk.injEq] at hc
    obtain ⟨rfl, rfl⟩ := hc
    exact .inr (.inl ⟨cap, rfl⟩)

theorem intsAt_sl {h : Heap} {v : AV} {l : List Int} (hi : intsAt h v = some l) : Sl (fun x => [.int .i64 x]) h v l := by
  unfold intsAt at hi
  split at hi
  · rename_i c n hc
    split at hi
    · rename_i l' hl
      split at hi
      · rename_i hn
        cases hi
        subst hn
        rw [decInts_eq hl] at hc
        exact sl_of_cells hc
      · cases hi
    · cases hi
  · cases hi
theorem strsAt_sl {h : Heap} {v : AV} {l : List (List UInt8)} (hi : strsAt h v = some l) : Sl (fun x => [.str x]) h v l := by
  unfold strsAt at hi
  split at hi
  · rename_i c n hc
    split at hi
    · rename_i l' hl
      split at hi
      · rename_i hn
        cases hi
        subst hn
        rw [decStrs_eq hl] at hc
        exact sl_of_cells hc
      · cases hi
    · cases hi
  · cases hi
theorem strs_top (l : List (List UInt8)) : topL (strs l) = 0 := topL_arr (fun _ => rfl) l
end Go.Ab


/-
  Own work: calls of functions by their code, on whatever heap; the end of such a run.
-/
namespace Go.Ab
variable {M : Mach}

/-- A call gives r: by its contract or by its code. -/
def CT (M : Mach) (g : AV) (ars : List AV) (h : Heap) (r : HR) : Prop := ∃ n, M.call n g ars h = some r
theorem CT.ext {f : FuncId} {fi ca ars : List AV} {h : Heap} {r : HR} (he : M.ext f (fi ++ ars ++ ca) h = some r) : CT M (.fn (.func f) fi ca) ars h r := ⟨0, by simp only [callWith, he]⟩
theorem CT.run {f : FuncId} {fi ca ars : List AV} {h : Heap} {r : HR} (he : M.ext f (fi ++ ars ++ ca) h = none) (hr : Run M f (fi ++ ars ++ ca) h r) : CT M (.fn (.func f) fi ca) ars h r := by
  obtain ⟨n, hn⟩ := hr
  exact ⟨n, by simp only [callWith, he]; exact hn⟩

theorem WO.ctd {d : Dst} {f : IOpd} {args : List IOpd} {l : List IOper} {s : StW} {Q : StW → Prop} {g : AV} {ars : List AV} {r : HR} (hf : s.s.opd f = some g) (ha : s.s.opds args = some ars) (hc : CT M g ars s.s.hp r)
    (h : WO M l ⟨{ s.s.put d r.v with hp := r.h }, r.wr ++ s.wr⟩ Q) : WO M (⟨d, .call f args, none⟩ :: l) s Q :=
  WO.op (WP.call hf ha (by obtain ⟨n, hn⟩ := hc; exact ⟨⟨n, r, hn, h⟩⟩))
theorem WO.ct {t : Nat} {f : IOpd} {args : List IOpd} {l : List IOper} {pe : List AV} {lo : List (Nat × AV)} {hp h' : Heap} {df wr wr' : List Nat} {Q : StW → Prop} {g : AV} {ars : List AV} {v : AV} (hf : (St.mk pe lo hp df).opd f = some g) (ha : (St.mk pe lo hp df).opds args = some ars)
    (hc : CT M g ars hp ⟨v, h', wr'⟩) (h : WO M l ⟨⟨pe, (t, v) :: lo, h', df⟩, wr' ++ wr⟩ Q) : WO M (⟨.l t, .call f args, none⟩ :: l) ⟨⟨pe, lo, hp, df⟩, wr⟩ Q := WO.ctd hf ha hc h
/-- A call that makes and turns nothing, in a drawn region. -/
theorem WD.ctd {d : Dst} {f : IOpd} {args : List IOpd} {un : List Nat} {l : List (IOper × List Nat)} {s : StW} {ds : List Done} {Q : StW → Prop} {g : AV} {ars : List AV} {v : AV} (hf : s.s.opd f = some g) (ha : s.s.opds args = some ars)
    (hU : (un.flatMap fun j => (ds[j]?).elim [] Done.own) = []) (he : CT M g ars s.s.hp ⟨v, s.s.hp, []⟩)
    (h : WD M l ⟨s.s.put d v, s.wr⟩ (ds ++ [⟨none, [], 0, 0⟩]) Q) : WD M ((⟨d, .call f args, none⟩, un) :: l) s ds Q := by
  obtain ⟨⟨m, s', h2, h3⟩⟩ := h.norm (d' := ⟨none, [], s.s.hp.length, s.s.hp.length⟩) (by simp [Done.key, Done.own])
  obtain ⟨n, hn⟩ := he
  refine ⟨⟨max n m, s', ?_, h3⟩⟩
  have h2' := drawA_le (inv := M.inv) (call_up (Nat.le_max_right n m)) _ _ _ _ h2
  have hn' := call_up (M := M) (Nat.le_max_left n m) _ _ _ _ hn
  have hm : mask s.s.hp [] = s.s.hp := rfl
  have hcall : opA (M.call (max n m)) M.inv { s.s with hp := s.s.hp } (.call f args) = some ⟨v, s.s.hp, []⟩ := by
    simp only [opA, hf, ha]; exact hn'
  have hmerge : mergeW [] s.s.hp s.s.hp 0 = s.s.hp := by
    apply List.ext_getElem?
    intro c
    rw [mergeW_get _ _ _ _ _ (Nat.le_refl _)]
    split
    · rfl
    · rfl
  simp only [drawA, wantedA, IOp.heapy, if_true, touchA, hU, hm]
  rw [hcall]
  have hp : ({ s.s.put d v with hp := s.s.hp } : St) = s.s.put d v := by cases d <;> rfl
  simp only [List.all_nil, List.isEmpty_nil, Bool.true_or, Bool.and_true, if_true, hmerge, List.nil_append, hp]
  exact h2'
theorem WD.ct {t : Nat} {f : IOpd} {args : List IOpd} {un : List Nat} {l : List (IOper × List Nat)} {pe : List AV} {lo : List (Nat × AV)} {hp : Heap} {df wr : List Nat} {ds : List Done} {Q : StW → Prop} {g : AV} {ars : List AV} {v : AV} (hf : (St.mk pe lo hp df).opd f = some g) (ha : (St.mk pe lo hp df).opds args = some ars)
    (hU : (un.flatMap fun j => (ds[j]?).elim [] Done.own) = []) (he : CT M g ars hp ⟨v, hp, []⟩)
    (h : WD M l ⟨⟨pe, (t, v) :: lo, hp, df⟩, wr⟩ (ds ++ [⟨none, [], 0, 0⟩]) Q) : WD M ((⟨.l t, .call f args, none⟩, un) :: l) ⟨⟨pe, lo, hp, df⟩, wr⟩ ds Q := WD.ctd hf ha hU he h

/-- A run on whatever heap. -/
theorem run_of_WH {h : Heap} {f N : Nat} {pers : List Nat} {res : List IRes} {body : ICode} {ars : List AV} {r : HR} (hft : M.FT f = some ⟨N, pers, res, body⟩) (hN : ars.length ≤ N)
    (hW : W M body ⟨⟨pers.map (fun t => (ars[t]?).getD undefA), [], h, []⟩, []⟩ fun e s => (e = .normal ∨ e = .ret) ∧ s.s.dfs = [] ∧ ∃ vs, resultsA s.s res = some vs ∧ retA (tupA vs) h.length s = r) : Run M f ars h r := by
  obtain ⟨⟨n, e, s, h1, h2, h3, vs, h4, h5⟩⟩ := hW
  refine ⟨n, ?_⟩
  have h1' : evalC M.ext M.inv M.FT n body ⟨⟨pers.map (fun t => (ars[t]?).getD undefA), [], h, []⟩, []⟩ = some (e, s) := h1
  simp only [callFT, hft]
  rw [if_neg (by omega)]
  simp only [Mach.ev, h1', if_pos h2, h3, takeDfs, h4, h5]

/-- Nothing written but one block. -/
def Only (b : Nat) (wr : List Nat) : Prop := ∀ x ∈ wr, x = b
theorem Only.nil {b : Nat} : Only b [] := fun _ h => by cases h
theorem Only.cons {b : Nat} {wr : List Nat} (h : Only b wr) : Only b (b :: wr) := fun x hx => by
  rcases List.mem_cons.1 hx with e | e
  · exact e
  · exact h x e
theorem Only.app {b : Nat} {v wr : List Nat} (h' : Only b v) (h : Only b wr) : Only b (v ++ wr) := fun x hx => by
  rcases List.mem_append.1 hx with e | e
  · exact h' x e
  · exact h x e
theorem put_put {h : Heap} {b : Nat} {x y : Option Blk} : (h.put b x).put b y = h.put b y := by simp [Heap.put]

/-- The end of a run that has turned one block alone and hands nothing back. -/
theorem ret_put {h : Heap} {b : Nat} {c c0 : List AV} {e : TypeId} {s : StW} (hb : b < h.length) (hh : s.s.hp = h.put b (some (.cells c e))) (hw : Only b s.wr) (hc : topL c = 0) :
    ∃ wr, Only b wr ∧ retA (.tup []) (h.put b (some (.cells c0 e))).length s = ⟨.tup [], h.put b (some (.cells c e)), wr⟩ := by
  refine ⟨s.wr.filter (· < h.length), fun x hx => hw x (List.mem_filter.1 hx).1, ?_⟩
  have hl : (h.put b (some (.cells c0 e))).length = h.length := put_length
  have ht : tight s.s.hp h.length s.wr = true := by
    simp only [tight, List.all_eq_true]
    intro x hx
    rw [hw x hx, hh, at_put hb]
    simp [Blk.top, hc]
  have hk : (h.put b (some (.cells c e))).take h.length = h.put b (some (.cells c e)) := List.take_of_length_le (by rw [put_length]; exact Nat.le_refl _)
  simp only [retA, hl, ht, Bool.and_true]
  rw [hh, hk]
  split <;> rfl

/-- The same of a whole run. -/
theorem run_put {α : Type} {f : α → List AV} {h : Heap} {b : Nat} {l : List α} {e : TypeId} {g N : Nat} {pers : List Nat} {body : ICode} {ars : List AV} {P : List α → Prop} (hft : M.FT g = some ⟨N, pers, [], body⟩) (hN : ars.length ≤ N) (hb : b < h.length) (hf : ∀ a, topL (f a) = 0)
    (hW : W M body ⟨⟨pers.map (fun t => (ars[t]?).getD undefA), [], h.put b (some (.cells (arr f l) e)), []⟩, []⟩ fun x s => (x = .normal ∨ x = .ret) ∧ s.s.dfs = [] ∧ ∃ l', s.s.hp = h.put b (some (.cells (arr f l') e)) ∧ Only b s.wr ∧ P l') :
    ∃ l' wr, Only b wr ∧ P l' ∧ Run M g ars (h.put b (some (.cells (arr f l) e))) ⟨.tup [], h.put b (some (.cells (arr f l') e)), wr⟩ := by
  obtain ⟨⟨n, x, s, h1, h2, h3, l', h4, h5, h6⟩⟩ := hW
  obtain ⟨wr, hw, hr⟩ := ret_put (c0 := arr f l) hb h4 h5 (topL_arr hf l')
  refine ⟨l', wr, hw, h6, run_of_WH hft hN ⟨⟨n, x, s, h1, h2, h3, [], rfl, hr⟩⟩⟩

/-! Half of a sum, as the library's sorts take it. -/
theorem WO.cvu {t : Nat} {x : IOpd} {l : List IOper} {pe : List AV} {lo : List (Nat × AV)} {hp : Heap} {df wr : List Nat} {k : IntKind} {a : Int} {Q : StW → Prop} (hx : (St.mk pe lo hp df).opd x = some (.int k a)) (hr : 0 ≤ a ∧ a < 18446744073709551616)
    (h : WO M l ⟨⟨pe, (t, .int .u64 a) :: lo, hp, df⟩, wr⟩ Q) : WO M (⟨.l t, .convInt .u64 x, none⟩ :: l) ⟨⟨pe, lo, hp, df⟩, wr⟩ Q :=
  WO.op (WP.pure (v := .int .u64 a) rfl (by
    have : IntKind.u64.wrap a = a := by simp only [IntKind.wrap, IntKind.bits, IntKind.signed]; simp; omega
    simp only [pureA, hx, Option.bind_some, convA, this]) h)
theorem WO.cvi {t : Nat} {x : IOpd} {l : List IOper} {pe : List AV} {lo : List (Nat × AV)} {hp : Heap} {df wr : List Nat} {k : IntKind} {a : Int} {Q : StW → Prop} (hx : (St.mk pe lo hp df).opd x = some (.int k a)) (hr : -9223372036854775808 ≤ a ∧ a < 9223372036854775808)
    (h : WO M l ⟨⟨pe, (t, .int .i64 a) :: lo, hp, df⟩, wr⟩ Q) : WO M (⟨.l t, .convInt .i64 x, none⟩ :: l) ⟨⟨pe, lo, hp, df⟩, wr⟩ Q :=
  WO.op (WP.pure (v := .int .i64 a) rfl (by simp only [pureA, hx, Option.bind_some, convA, i64_wrap hr]) h)
end Go.Ab


/-
  Own work: one element appended; the end of a run that turns nothing.
-/
namespace Go.Ab
variable {M : Mach}

/-- The end of a run that turns nothing and hands back a plain value. -/
theorem ret_same {h : Heap} {v : AV} {s : StW} (hh : s.s.hp = h) (hw : s.wr = []) : retA v h.length s = ⟨v, h, []⟩ := by
  have hk : h.take h.length = h := List.take_length
  simp only [retA, hh, hw, tight, List.all_nil, Bool.and_true, List.filter_nil, hk]
  split <;> rfl
theorem run_same {h : Heap} {g N : Nat} {pers : List Nat} {res : List IRes} {body : ICode} {ars : List AV} {v : AV} (hft : M.FT g = some ⟨N, pers, res, body⟩) (hN : ars.length ≤ N)
    (hW : W M body ⟨⟨pers.map (fun t => (ars[t]?).getD undefA), [], h, []⟩, []⟩ fun x s => (x = .normal ∨ x = .ret) ∧ s.s.dfs = [] ∧ s.s.hp = h ∧ s.wr = [] ∧ ∃ vs, resultsA s.s res = some vs ∧ tupA vs = v) : Run M g ars h ⟨v, h, []⟩ := by
  refine run_of_WH hft hN (hW.mono fun x s ⟨h1, h2, h3, h4, vs, h5, h6⟩ => ⟨h1, h2, vs, h5, ?_⟩)
  subst h6
  exact ret_same h3 h4

end Go.Ab


/-
  Own work: bytes of a text, small conversions, boxes in a heap that grows; the end of a run that drops what it made.
-/
namespace Go.Ab
variable {M : Mach}

/-- Nothing written but one block, and what was made since. -/
def OnlyN (b n : Nat) (wr : List Nat) : Prop := ∀ x ∈ wr, x = b ∨ n ≤ x
theorem OnlyN.nil {b n : Nat} : OnlyN b n [] := fun _ h => by cases h
theorem OnlyN.only {b n : Nat} {wr : List Nat} (h : Only b wr) : OnlyN b n wr := fun x hx => .inl (h x hx)
theorem OnlyN.cons {b n : Nat} {wr : List Nat} (h : OnlyN b n wr) : OnlyN b n (b :: wr) := fun x hx => by
  rcases List.mem_cons.1 hx with e | e
  · exact .inl e
  · exact h x e
theorem OnlyN.new {b n a : Nat} {wr : List Nat} (h : OnlyN b n wr) (ha : n ≤ a) : OnlyN b n (a :: wr) := fun x hx => by
  rcases List.mem_cons.1 hx with e | e
  · exact .inr (by omega)
  · exact h x e
theorem OnlyN.app {b n : Nat} {v wr : List Nat} (h' : OnlyN b n v) (h : OnlyN b n wr) : OnlyN b n (v ++ wr) := fun x hx => by
  rcases List.mem_append.1 hx with e | e
  · exact h' x e
  · exact h x e

/-- The end of a run that turns nothing old and hands back a plain value. -/
theorem ret_drop {h J : Heap} {v : AV} {s : StW} (hh : s.s.hp = h ++ J) (hw : ∀ x ∈ s.wr, h.length ≤ x) (hv : v.top = 0) : retA v h.length s = ⟨v, h, []⟩ := by
  have hf : s.wr.filter (· < h.length) = [] := by
    rw [List.filter_eq_nil_iff]
    intro x hx
    have := hw x hx
    simp; omega
  have ht : tight s.s.hp h.length s.wr = true := by
    simp only [tight, List.all_eq_true]
    intro x hx
    have := hw x hx
    split <;> simp [this]
  have hk : s.s.hp.take h.length = h := by rw [hh]; simp
  simp only [retA, hf, ht, hk, Bool.and_true]
  rw [if_pos (by simp [hv])]
theorem run_drop {h : Heap} {g N : Nat} {pers : List Nat} {res : List IRes} {body : ICode} {ars : List AV} {v : AV} (hft : M.FT g = some ⟨N, pers, res, body⟩) (hN : ars.length ≤ N) (hv : v.top = 0)
    (hW : W M body ⟨⟨pers.map (fun t => (ars[t]?).getD undefA), [], h, []⟩, []⟩ fun x s => (x = .normal ∨ x = .ret) ∧ s.s.dfs = [] ∧ (∃ J, s.s.hp = h ++ J) ∧ (∀ x ∈ s.wr, h.length ≤ x) ∧ ∃ vs, resultsA s.s res = some vs ∧ tupA vs = v) : Run M g ars h ⟨v, h, []⟩ := by
  refine run_of_WH hft hN (hW.mono fun x s ⟨h1, h2, ⟨J, h3⟩, h4, vs, h5, h6⟩ => ⟨h1, h2, vs, h5, ?_⟩)
  subst h6
  exact ret_drop h3 h4 hv

/-- A run on the empty heap that hands back something of some kind. -/
theorem run_ofE {f N : Nat} {pers : List Nat} {res : List IRes} {body : ICode} {ars : List AV} {P : AV → Heap → Prop} (hft : M.FT f = some ⟨N, pers, res, body⟩) (hN : ars.length ≤ N)
    (h : W M body ⟨⟨pers.map (fun t => (ars[t]?).getD undefA), [], [], []⟩, []⟩ fun e s => (e = .normal ∨ e = .ret) ∧ s.s.dfs = [] ∧ ∃ vs, resultsA s.s res = some vs ∧ P (tupA vs) (if (tupA vs).top ≤ 0 then [] else s.s.hp)) : ∃ v hh, P v hh ∧ Run M f ars [] ⟨v, hh, []⟩ := by
  obtain ⟨⟨n, e, s, h1, h2, h3, vs, h4, h5⟩⟩ := h
  exact ⟨_, _, h5, run_of_W hft hN ⟨⟨n, e, s, h1, h2, h3, vs, h4, rfl, rfl⟩⟩⟩

/-! Boxes. -/
theorem WO.ldb {t b o n : Nat} {ag : Bool} {x : IOpd} {l : List IOper} {pe : List AV} {lo : List (Nat × AV)} {hp : Heap} {df wr : List Nat} {c : List AV} {e : TypeId} {v : AV} {Q : StW → Prop} (hx : (St.mk pe lo hp df).opd x = some (.ptr b o)) (hb : hp.at b = some (.cells c e)) (hv : partOf (c.drop o) 0 n ag = some v)
    (h : WO M l ⟨⟨pe, (t, v) :: lo, hp, df⟩, wr⟩ Q) : WO M (⟨.l t, .load n ag x, none⟩ :: l) ⟨⟨pe, lo, hp, df⟩, wr⟩ Q :=
  WO.ldx hx (show readAt hp (.ptr b o) = some (c.drop o) by simp only [readAt, hb]) hv h
theorem WO.stw {b n : Nat} {x y : IOpd} {l : List IOper} {pe : List AV} {lo : List (Nat × AV)} {hp : Heap} {df wr : List Nat} {c new : List AV} {e : TypeId} {Q : StW → Prop} (hx : (St.mk pe lo hp df).opd x = some (.ptr b 0)) (hy : ((St.mk pe lo hp df).opd y).bind AV.cells = some new) (hb : hp.at b = some (.cells c e))
    (hn : new.length = n ∧ c.length = n ∧ new.all oneA = true) (h : WO M l ⟨⟨pe, lo, hp.put b (some (.cells new e)), df⟩, b :: wr⟩ Q) : WO M (⟨.no, .store n x y, none⟩ :: l) ⟨⟨pe, lo, hp, df⟩, wr⟩ Q := by
  obtain ⟨h1, h2, h3⟩ := hn
  refine WO.hnv (v := undefA) (h' := hp.put b (some (.cells new e))) (w' := [b]) ?_ rfl rfl h
  have ho : overwrite c 0 new = new := by simp [overwrite, h1, h2]
  simp only [heapA, hx, hy, hb]
  rw [if_pos ⟨h1, by omega, h3⟩, ho]
/-- What is appended to a slice of no room. -/
theorem WO.apc {t esz0 bytes n c : Nat} {elem el : TypeId} {x y : IOpd} {l : List IOper} {pe : List AV} {lo : List (Nat × AV)} {hp : Heap} {df wr : List Nat} {b : AV} {new : List AV} {Q : StW → Prop} (hx : (St.mk pe lo hp df).opd x = some (.sl c 0 0 esz0 (some 0))) (hy : (St.mk pe lo hp df).opd y = some b) (hb : hp.at c = some (.cells [] el))
    (hs : sliceCells hp b = some (new, n)) (hc : new.length = n * esz0 ∧ 0 < bytes ∧ new.all oneA = true) (hn : 0 < n ∧ n * bytes ≤ roomLimit) (h : WO M l ⟨⟨pe, (t, .sl hp.length 0 n esz0 none) :: lo, hp ++ [some (.cells new elem)], df⟩, wr⟩ Q) : WO M (⟨.l t, .append elem esz0 bytes x y, none⟩ :: l) ⟨⟨pe, lo, hp, df⟩, wr⟩ Q := by
  refine WO.hlv (v := .sl hp.length 0 n esz0 none) (h' := hp ++ [some (.cells new elem)]) (w' := []) ?_ rfl rfl h
  simp only [heapA, hx, hy, appendA, hs, if_pos hc]
  rw [if_neg (by omega), if_pos ⟨trivial, by rw [Nat.zero_add]; exact hn.2⟩]
  simp only [hb]
  rw [if_neg (by omega)]
  simp [cut]
/-! Unsigned words. -/
theorem u64_wrap {n : Int} (h : 0 ≤ n ∧ n < 18446744073709551616) : IntKind.u64.wrap n = n := by
  simp only [IntKind.wrap, IntKind.bits, IntKind.signed]; simp; omega
theorem WO.eqs {t : Nat} {x y : IOpd} {l : List IOper} {pe : List AV} {lo : List (Nat × AV)} {hp : Heap} {df wr : List Nat} {a b : AV} {r : Bool} {Q : StW → Prop} (hx : (St.mk pe lo hp df).opd x = some a) (hy : (St.mk pe lo hp df).opd y = some b) (he : eqRef .slice a b = some r)
    (h : WO M l ⟨⟨pe, (t, .bool r) :: lo, hp, df⟩, wr⟩ Q) : WO M (⟨.l t, .eq false (.ref .slice) x y, none⟩ :: l) ⟨⟨pe, lo, hp, df⟩, wr⟩ Q :=
  WO.pl (v := .bool r) (by simp [pureA, hx, hy, eqA, he]) rfl h
theorem one_arr {α : Type} {f : α → List AV} (hf : ∀ a, (f a).all oneA = true) : ∀ l : List α, (arr f l).all oneA = true
  | [] => rfl
  | a :: l => by
    have := one_arr hf l
    simp only [arr] at this
    simp only [arr, List.flatMap_cons, List.all_append, hf a, this, Bool.and_self]
end Go.Ab


/-
  Own work: an append in a drawn region, where no earlier operation is unordered to it.
-/
namespace Go.Ab
variable {M : Mach}

theorem merge_new {T : List Nat} {h : Heap} {o : Option Blk} : mergeW [] h (keep T h 0 ++ [o]) 0 = h ++ [o] := by
  apply List.ext_getElem?
  intro c
  rw [mergeW_get _ _ _ _ _ (by simp [keep_length])]
  split
  · rename_i hc; rw [List.getElem?_append_left hc]; simp
  · rename_i hc
    rw [List.getElem?_append_right (by rw [keep_length]; omega), List.getElem?_append_right (by omega), keep_length]
theorem merge_put_new {T : List Nat} {h : Heap} {b : Nat} {o : Option Blk} : mergeW [b] h (Heap.put (keep T h 0) b none ++ [o]) 0 = Heap.put h b none ++ [o] := by
  have hl : (Heap.put (keep T h 0) b none).length = h.length := by rw [put_length, keep_length]
  apply List.ext_getElem?
  intro c
  rw [mergeW_get _ _ _ _ _ (by simp [hl])]
  split
  · rename_i hc
    rw [List.getElem?_append_left (by rw [hl]; exact hc), List.getElem?_append_left (by rw [put_length]; exact hc)]
    simp only [Heap.put, List.getElem?_set, keep_length, keep_get]
    by_cases e : b = c
    · subst e; simp [hc]
    · rw [if_neg e, if_neg e]
      have e' : ¬ c = b := fun h => e h.symm
      simp [e']
  · rename_i hc
    rw [List.getElem?_append_right (by rw [hl]; omega), List.getElem?_append_right (by rw [put_length]; omega), hl, put_length]

theorem slice_keep {T : List Nat} {h : Heap} {y : AV} (hT : ∀ b, b ∈ blkOf (some y) → b ∈ T) : sliceCells (keep T h 0) y = sliceCells h y := by
  cases y with
  | sl b off n esz cap =>
    simp only [sliceCells]
    rw [keep_at', if_pos (by simpa using hT b (by simp [blkOf]))]
  | _ => rfl

theorem append_keep {elem : TypeId} {esz bytes : Nat} {T : List Nat} {h : Heap} {x y : AV} (hx : ∀ b, b ∈ blkOf (some x) → b ∈ T) (hy : ∀ b, b ∈ blkOf (some y) → b ∈ T) {r : HR} (hr : appendA elem esz bytes h x y = some r) :
    ∃ h', appendA elem esz bytes (keep T h 0) x y = some ⟨r.v, h', r.wr⟩ ∧ mergeW r.wr h h' 0 = r.h ∧ (∀ b ∈ r.wr, ((keep T h 0).at b).isSome = true) := by
  unfold appendA at hr ⊢
  rw [slice_keep hy]
  split at hr
  · cases hr
  · rename_i new n hs
    split at hr
    · rename_i hc
      rw [if_pos hc]
      split at hr
      · split at hr
        · rename_i h0
          cases hr
          exact ⟨keep T h 0, by rw [if_pos h0], merge_keep', by simp⟩
        · rename_i h0
          split at hr
          · rename_i h1
            cases hr
            exact ⟨_, by rw [if_neg h0, if_pos h1, keep_length], merge_new, by simp⟩
          · cases hr
      · rename_i l len cap
        split at hr
        · rename_i h0
          cases hr
          exact ⟨keep T h 0, by rw [if_pos h0], merge_keep', by simp⟩
        · rename_i h0
          split at hr
          · rename_i c
            split at hr
            · rename_i h1
              cases hr
              refine ⟨keep T h 0 ++ [some (.cells (l ++ new) elem)], ?_, merge_new, by simp⟩
              simp only [if_neg h0, if_pos h1, keep_length]
            · cases hr
          · cases hr
      · rename_i b off len e cap
        have hbT : T.contains b = true := by simpa using hx b (by simp [blkOf])
        have hk : (keep T h 0).at b = h.at b := by rw [keep_at', if_pos hbT]
        split at hr
        · rename_i h0
          cases hr
          exact ⟨keep T h 0, by rw [if_pos h0], merge_keep', by simp⟩
        · rename_i h0
          split at hr
          · rename_i h1
            split at hr
            · rename_i l el hat
              have hlt := at_lt hat
              have hsome : ((keep T h 0).at b).isSome = true := by rw [hk, hat]; rfl
              split at hr
              · rename_i c
                split at hr
                · rename_i h2
                  split at hr
                  · rename_i h3
                    cases hr
                    refine ⟨Heap.put (keep T h 0) b (some (.cells (overwrite l (off + len * esz) new) el)), ?_, merge_keep_put', by simpa using hsome⟩
                    simp only [if_neg h0, if_pos h1, hk, hat, if_pos h2, if_pos h3]
                  · cases hr
                · rename_i h2
                  split at hr
                  · rename_i old hcut
                    cases hr
                    refine ⟨keep T h 0 ++ [some (.cells (old ++ new) elem)], ?_, merge_new, by simp⟩
                    simp only [if_neg h0, if_pos h1, hk, hat, if_neg h2, hcut, keep_length]
                  · cases hr
              · split at hr
                · rename_i h2
                  cases hr
                  refine ⟨Heap.put (keep T h 0) b none ++ [some (.cells (l.drop off ++ new) elem)], ?_, merge_put_new, by simpa using hsome⟩
                  simp only [if_neg h0, if_pos h1, hk, hat, if_pos h2, keep_length]
                · cases hr
            · cases hr
          · cases hr
      · cases hr
    · cases hr

theorem WD.app {d : Dst} {elem : TypeId} {esz bytes : Nat} {x y : IOpd} {l : List (IOper × List Nat)} {s : StW} {ds : List Done} {a b : AV} {Q : StW → Prop} (ha : s.s.opd x = some a) (hb : s.s.opd y = some b)
    (h : ∀ dn, WO M [⟨d, .append elem esz bytes x y, none⟩] s fun s' => WD M l s' (ds ++ [dn]) Q) : WD M ((⟨d, .append elem esz bytes x y, none⟩, []) :: l) s ds Q := by
  have key : ∀ h0, opA (M.call 0) M.inv { s.s with hp := h0 } (.append elem esz bytes x y) = appendA elem esz bytes h0 a b := fun h0 => by
    have hx' : (St.mk s.s.pe s.s.lo h0 s.s.dfs).opd x = some a := by rw [← ha]; cases x <;> rfl
    have hy' : (St.mk s.s.pe s.s.lo h0 s.s.dfs).opd y = some b := by rw [← hb]; cases y <;> rfl
    simp only [opA, IOp.heapy, if_true, heapA, hx', hy']
  have keyn : ∀ n h0, opA (M.call n) M.inv { s.s with hp := h0 } (.append elem esz bytes x y) = appendA elem esz bytes h0 a b := fun n h0 => by
    have hx' : (St.mk s.s.pe s.s.lo h0 s.s.dfs).opd x = some a := by rw [← ha]; cases x <;> rfl
    have hy' : (St.mk s.s.pe s.s.lo h0 s.s.dfs).opd y = some b := by rw [← hb]; cases y <;> rfl
    simp only [opA, IOp.heapy, if_true, heapA, hx', hy']
  cases hq : appendA elem esz bytes s.s.hp a b with
  | none =>
    obtain ⟨⟨k, s1, h1, _⟩⟩ := h ⟨none, [], 0, 0⟩
    simp only [opersA, wantedA] at h1
    rw [show opA (M.call k) M.inv s.s (.append elem esz bytes x y) = none from (keyn k s.s.hp).trans hq] at h1
    cases h1
  | some r =>
    obtain ⟨h', e1, e2, e3⟩ := append_keep (T := blkOf (some a) ++ blkOf (some b)) (fun c hc => List.mem_append_left _ hc) (fun c hc => List.mem_append_right _ hc) hq
    obtain ⟨⟨k, s1, h1, ⟨⟨m, s', h2, h3⟩⟩⟩⟩ := h ⟨some (blkOf (some a) ++ blkOf (some b)), r.wr, s.s.hp.length, h'.length⟩
    refine ⟨⟨m, s', ?_, h3⟩⟩
    simp only [opersA, wantedA] at h1
    rw [show opA (M.call k) M.inv s.s (.append elem esz bytes x y) = some r from (keyn k s.s.hp).trans hq] at h1
    simp only [Option.some.injEq] at h1
    have ht : touchA s.s (.append elem esz bytes x y) = some (blkOf (some a) ++ blkOf (some b)) := by
      simp only [touchA, ha, hb]
      congr 1
    have hd : disj (blkOf (some a) ++ blkOf (some b)) [] = true := by simp [disj]
    simp only [drawA, wantedA, IOp.heapy, if_true, ht, List.flatMap_nil, hd]
    rw [show opA (M.call m) M.inv { s.s with hp := keep (blkOf (some a) ++ blkOf (some b)) s.s.hp 0 } (.append elem esz bytes x y) = some ⟨r.v, h', r.wr⟩ from (keyn m _).trans e1]
    have hw : (r.wr.all fun c => ((keep (blkOf (some a) ++ blkOf (some b)) s.s.hp 0).at c).isSome) = true := by
      rw [List.all_eq_true]; exact e3
    simp only [List.all_nil, Bool.or_true, Bool.and_true, e2]
    rw [← h1] at h2
    first
      | (rw [if_pos e3]; exact h2)
      | (rw [if_pos hw]; exact h2)
      | (simp only [hw, if_true]; exact h2)
end Go.Ab


/-
  Own work: a call with an empty slice, nil or not: told apart, run twice, and told again as one.
-/
namespace Go.Ab
variable {P : Program} {gl : Nat → Option AV}

end Go.Ab


/-
  Own work: arguments that are slices of integers, or arrays of two of them, as the abstract machine sees them.
-/
namespace Go.Ab
open Go.ChangeShapes Go.WideShapes Go.RowKit
variable {H : Type} {enc : TypeId × Value → H} {P : Program} {W : World} {base : Nat} {sp : Nat → Bool} {t e : TypeId} {v : Value} {d : DataW H} {ps : List MemPlace}

theorem free_bare {c : Nat} : Free bare c := ⟨fun b d hb => by simp [bare] at hb, fun hx => hx⟩

end Go.Ab


/-
  Own work: runes of a text, parts of slices, what fills the room; small lists.
-/
namespace Go.Ab
variable {M : Mach}
abbrev Str := List UInt8

theorem strs_at {h : Heap} {b n : Nat} {cap : Option Nat} {l : List Str} {e : TypeId} (hb : h.at b = some (.cells (strs l) e)) (hl : l.length = n) : strsAt h (.sl b 0 n 1 cap) = some l := by
  subst hl
  have e0 : (strs l).length = l.length := (arr_length (f := fun x : Str => [AV.str x]) (esz := 1) (fun _ => rfl) l).trans (Nat.mul_one _)
  have e1 : cut (strs l) 0 (l.length * 1) = some (strs l) := by
    rw [Nat.mul_one, ← e0]; simp [cut]
  simp only [strsAt, cellsAt, hb, e1, Option.map_some, decStrs_strs]
  simp
theorem strsAt_vs {h : Heap} {l : List Str} {cap : Option Nat} : strsAt h (.vs (strs l) l.length cap) = some l := by
  simp only [strsAt, cellsAt, sliceCells, decStrs_strs, if_true]

/-! Lists. -/
def firstNZ : List Int → Int
  | [] => 0
  | e :: r => if e = 0 then firstNZ r else e
def outI (x lo hi : Int) : Bool := decide (x < lo) || decide (hi < x)
end Go.Ab


/-
  Own work: loops over functions in the calculus of runs: the loop, the rounds that its function asks for, ends of calls.
-/
namespace Go.Ab
variable {M : Mach}

/-- A call of a function of the table, on a heap, gives something of which K holds. -/
structure WRun (M : Mach) (f : FuncId) (as : List AV) (h : Heap) (K : HR → Prop) : Prop where
  out : ∃ r, Run M f as h r ∧ K r

theorem WRun.of_W {f N : Nat} {pers : List Nat} {res : List IRes} {body : ICode} {ars : List AV} {h : Heap} {K : HR → Prop} (hft : M.FT f = some ⟨N, pers, res, body⟩) (hN : ars.length ≤ N)
    (hW : W M body ⟨⟨pers.map (fun t => (ars[t]?).getD undefA), [], h, []⟩, []⟩ fun e s => (e = .normal ∨ e = .ret) ∧ ∃ s', takeDfs s.s.dfs s = some s' ∧ ∃ vs, resultsA s'.s res = some vs ∧ K (retA (tupA vs) h.length s')) : WRun M f ars h K := by
  obtain ⟨⟨n, e, s, h1, h2, s', h3, vs, h4, h5⟩⟩ := hW
  refine ⟨_, ⟨n, ?_⟩, h5⟩
  have h1' : evalC M.ext M.inv M.FT n body ⟨⟨pers.map (fun t => (ars[t]?).getD undefA), [], h, []⟩, []⟩ = some (e, s) := h1
  simp only [callFT, hft]
  rw [if_neg (by omega)]
  simp only [h1', if_pos h2, h3, h4]

/-- A loop over a function. -/
theorem W.rangeF {f : IOpd} {ps : List Dst} {a b : ICode} {pe : List AV} {lo : List (Nat × AV)} {hp : Heap} {df wr : List Nat} {Q : Ex → StW → Prop} {g : FuncId} {fi ca : List AV} (hf : (St.mk pe lo hp df).opd f = some (.fn (.func g) fi ca))
    (hK : WRun M g (fi ++ [.fn (.yield (hp.length + 1)) [] []] ++ ca) (hp ++ [some .dfr, some (.loop .ready none pe ps a b)]) fun r => ∃ st pend pe' ps' a' b', r.h.at (hp.length + 1) = some (.loop st pend pe' ps' a' b') ∧ st ≠ .busy ∧
      Q (pend.getD .normal) ⟨⟨pe, lo, r.h.put (hp.length + 1) (some (.loop .exhausted pend pe' ps' a' b')), hp.length :: df⟩, (hp.length + 1) :: r.wr ++ wr⟩) : W M (.rangeFunc false f ps a b) ⟨⟨pe, lo, hp, df⟩, wr⟩ Q := by
  obtain ⟨r, ⟨n, hn⟩, st, pend, pe', ps', a', b', h1, h2, h3⟩ := hK
  refine ⟨⟨n + 1, _, _, ?_, h3⟩⟩
  have hn' : callFT (evalC M.ext M.inv M.FT n) M.FT g (fi ++ [.fn (.yield (hp.length + 1)) [] []] ++ ca) (hp ++ [some .dfr, some (.loop .ready none pe ps a b)]) = some r := hn
  show evalC _ _ _ _ _ _ = _
  rw [evalC]
  simp only [Bool.false_eq_true, if_false, hf, hn', h1, if_neg h2]

def yo (e : Ex) (pe : List AV) (ps : List Dst) (a bd : ICode) : Blk := if e = .normal then .loop .ready none pe ps a bd else .loop .done (some e) pe ps a bd
/-- Behind the body of a round. -/
structure YB (b n : Nat) (K : HR → Prop) (e : Ex) (s : StW) : Prop where
  out : ∃ pe ps a bd, s.s.hp.at b = some (.loop .busy none pe ps a bd) ∧ s.s.dfs = [] ∧ K (retA (.bool (decide (e = .normal))) n ⟨{ s.s with hp := s.s.hp.put b (some (yo e pe ps a bd)) }, b :: s.wr⟩)
/-- Behind the assignment of a round's values. -/
structure YA (M : Mach) (b n : Nat) (bd : ICode) (K : HR → Prop) (e : Ex) (s : StW) : Prop where
  out : e = .normal ∧ ∃ pe ps a bd1, s.s.hp.at b = some (.loop .ready none pe ps a bd1) ∧ W M bd ⟨{ s.s with hp := s.s.hp.put b (some (.loop .busy none pe ps a bd1)) }, b :: s.wr⟩ (YB b n K)

theorem WC.yield {b : Nat} {ars : List AV} {h : Heap} {pe : List AV} {ps : List Dst} {a bd : ICode} {s0 : St} {K : HR → Prop} (hb : h.at b = some (.loop .ready none pe ps a bd)) (hs : putAll ⟨pe, [], h, []⟩ ps ars = some s0) (hW : W M a ⟨s0, []⟩ (YA M b h.length bd K)) :
    WC M (.fn (.yield b) [] []) ars h K := by
  obtain ⟨⟨n, e, s1, h1, ⟨rfl, pe1, ps1, a1, bd1, h2, ⟨⟨m, e2, s2, h3, ⟨pe2, ps2, a2, bd2, h4, h5, h6⟩⟩⟩⟩⟩⟩ := hW
  refine ⟨⟨max n m, _, ?_, h6⟩⟩
  have g1 : evalC M.ext M.inv M.FT (max n m) a ⟨s0, []⟩ = some (.normal, s1) := ev_up (M := M) (Nat.le_max_left n m) h1
  have g3 : evalC M.ext M.inv M.FT (max n m) bd _ = some (e2, s2) := ev_up (M := M) (Nat.le_max_right n m) h3
  simp only [callWith, hb, hs, g1, h2, g3, h4, h5]
  rfl

/-- A round is asked for. -/
theorem WO.cly {t : Nat} {f : IOpd} {args : List IOpd} {l : List IOper} {pe0 : List AV} {lo : List (Nat × AV)} {hp : Heap} {df wr : List Nat} {Q : StW → Prop} {b : Nat} {ars pe : List AV} {ps : List Dst} {a bd : ICode} {s0 : St} (hf : (St.mk pe0 lo hp df).opd f = some (.fn (.yield b) [] [])) (ha : (St.mk pe0 lo hp df).opds args = some ars)
    (hb : hp.at b = some (.loop .ready none pe ps a bd)) (hs : putAll ⟨pe, [], hp, []⟩ ps ars = some s0) (hW : W M a ⟨s0, []⟩ (YA M b hp.length bd fun r => WO M l ⟨⟨pe0, (t, r.v) :: lo, r.h, df⟩, r.wr ++ wr⟩ Q)) :
    WO M (⟨.l t, .call f args, none⟩ :: l) ⟨⟨pe0, lo, hp, df⟩, wr⟩ Q :=
  WO.op (WP.call hf ha (WC.yield hb hs hW))

theorem YAn {b n : Nat} {K : HR → Prop} {pe0 : List AV} {lo : List (Nat × AV)} {hp : Heap} {df wr : List Nat} {pe : List AV} {ps : List Dst} {a bd bd1 : ICode} (hb : hp.at b = some (.loop .ready none pe ps a bd1))
    (hW : W M bd ⟨⟨pe0, lo, hp.put b (some (.loop .busy none pe ps a bd1)), df⟩, b :: wr⟩ (YB b n K)) : YA M b n bd K .normal ⟨⟨pe0, lo, hp, df⟩, wr⟩ := ⟨⟨rfl, _, _, _, _, hb, hW⟩⟩

/-- The end of a call or round that leaves no trace but what it wrote. -/
theorem retA_tight {v : AV} {n : Nat} {s : StW} (hv : v.top ≤ n) (ht : tight s.s.hp n s.wr = true) : retA v n s = ⟨v, s.s.hp.take n, s.wr.filter (· < n)⟩ := by
  unfold retA
  rw [if_pos (by simp [hv, ht])]
theorem retA_loose {v : AV} {n : Nat} {s : StW} (ht : tight s.s.hp n s.wr = false) : retA v n s = ⟨v, s.s.hp, s.wr.filter (· < n)⟩ := by
  unfold retA
  rw [if_neg (by simp [ht])]
/-- Two texts, one behind the other. -/
theorem WO.cat {t : Nat} {x y : IOpd} {l : List IOper} {pe : List AV} {lo : List (Nat × AV)} {hp : Heap} {df wr : List Nat} {a b : Str} {Q : StW → Prop} (hx : (St.mk pe lo hp df).opd x = some (.str a)) (hy : (St.mk pe lo hp df).opd y = some (.str b)) (hr : a.length + b.length < 4611686018427387904)
    (h : WO M l ⟨⟨pe, (t, .str (a ++ b)) :: lo, hp, df⟩, wr⟩ Q) : WO M (⟨.l t, .bin .add x y, none⟩ :: l) ⟨⟨pe, lo, hp, df⟩, wr⟩ Q :=
  WO.pl (v := .str (a ++ b)) (by simp only [pureA, hx, hy, binA]; rw [if_pos (by omega)]) rfl h
/-- The end of a run that turns nothing old and hands back what needs nothing new. -/
theorem ret_dropT {h J : Heap} {v : AV} {s : StW} (hh : s.s.hp = h ++ J) (hw : ∀ x ∈ s.wr, h.length ≤ x) (hv : v.top ≤ h.length) : retA v h.length s = ⟨v, h, []⟩ := by
  have hf : s.wr.filter (· < h.length) = [] := by
    rw [List.filter_eq_nil_iff]
    intro x hx
    have := hw x hx
    simp; omega
  have ht : tight s.s.hp h.length s.wr = true := by
    simp only [tight, List.all_eq_true]
    intro x hx
    have := hw x hx
    split <;> simp [this]
  have hk : s.s.hp.take h.length = h := by rw [hh]; simp
  rw [retA_tight hv ht, hf, hk]
theorem run_dropT {h : Heap} {g N : Nat} {pers : List Nat} {res : List IRes} {body : ICode} {ars : List AV} {v : AV} (hft : M.FT g = some ⟨N, pers, res, body⟩) (hN : ars.length ≤ N) (hv : v.top ≤ h.length)
    (hW : W M body ⟨⟨pers.map (fun t => (ars[t]?).getD undefA), [], h, []⟩, []⟩ fun x s => (x = .normal ∨ x = .ret) ∧ s.s.dfs = [] ∧ (∃ J, s.s.hp = h ++ J) ∧ (∀ x ∈ s.wr, h.length ≤ x) ∧ ∃ vs, resultsA s.s res = some vs ∧ tupA vs = v) : Run M g ars h ⟨v, h, []⟩ := by
  refine run_of_WH hft hN (hW.mono fun x s ⟨h1, h2, ⟨J, h3⟩, h4, vs, h5, h6⟩ => ⟨h1, h2, vs, h5, ?_⟩)
  subst h6
  exact ret_dropT h3 h4 hv
/-! A cell of a block that is known. -/
section
variable {t b j : Nat} {x y : IOpd} {l : List IOper} {pe : List AV} {lo : List (Nat × AV)} {hp : Heap} {df wr : List Nat} {c : List AV} {e : TypeId} {Q : StW → Prop}
theorem WO.ldj {n : Nat} {ag : Bool} {v : AV} (hx : (St.mk pe lo hp df).opd x = some (.ptr b j)) (hb : hp.at b = some (.cells c e)) (hv : partOf (c.drop j) 0 n ag = some v)
    (h : WO M l ⟨⟨pe, (t, v) :: lo, hp, df⟩, wr⟩ Q) : WO M (⟨.l t, .load n ag x, none⟩ :: l) ⟨⟨pe, lo, hp, df⟩, wr⟩ Q :=
  WO.hlv (v := v) (h' := hp) (w' := []) (by simp only [heapA, hx, Option.bind_some, readAt, hb, hv]) rfl rfl h
theorem WO.stj {n : Nat} {new : List AV} (hx : (St.mk pe lo hp df).opd x = some (.ptr b j)) (hy : ((St.mk pe lo hp df).opd y).bind AV.cells = some new) (hb : hp.at b = some (.cells c e)) (hn : new.length = n ∧ j + n ≤ c.length ∧ new.all oneA = true) {c' : List AV} (hc : overwrite c j new = c')
    (h : WO M l ⟨⟨pe, lo, hp.put b (some (.cells c' e)), df⟩, b :: wr⟩ Q) : WO M (⟨.no, .store n x y, none⟩ :: l) ⟨⟨pe, lo, hp, df⟩, wr⟩ Q := by
  subst hc
  refine WO.hnv (v := undefA) (h' := hp.put b (some (.cells (overwrite c j new) e))) (w' := [b]) ?_ rfl rfl h
  simp only [heapA, hx, hy, hb]
  rw [if_pos hn]
theorem WO.upn (hx : (St.mk pe lo hp df).opd x = some (.ptr b j)) (hb : hp.at b = some (.cells c e)) (hj : j < c.length)
    (h : WO M l ⟨⟨pe, (t, .ptr b j) :: lo, hp, df⟩, wr⟩ Q) : WO M (⟨.l t, .uptr none x, none⟩ :: l) ⟨⟨pe, lo, hp, df⟩, wr⟩ Q :=
  WO.hlv (v := .ptr b j) (h' := hp) (w' := []) (by simp only [heapA, hx, hb]; rw [if_pos ⟨hj, trivial⟩]) rfl rfl h
theorem WO.upt {n : Nat} (hx : (St.mk pe lo hp df).opd x = some (.ptr b 0)) (hb : hp.at b = some (.cells c e)) (hj : 0 < n ∧ c.length = n)
    (h : WO M l ⟨⟨pe, (t, .ptr b 0) :: lo, hp, df⟩, wr⟩ Q) : WO M (⟨.l t, .uptr (some (e, n)) x, none⟩ :: l) ⟨⟨pe, lo, hp, df⟩, wr⟩ Q :=
  WO.hlv (v := .ptr b 0) (h' := hp) (w' := []) (by simp only [heapA, hx, hb]; rw [if_pos ⟨by omega, by simp [hj.2]⟩]) rfl rfl h
theorem WO.epT {neg : Bool} (hx : (St.mk pe lo hp df).opd x = some (.ptr b j)) (hy : (St.mk pe lo hp df).opd y = some (.ptr b j)) (hb : hp.at b = some (.cells c e))
    (h : WO M l ⟨⟨pe, (t, .bool !neg) :: lo, hp, df⟩, wr⟩ Q) : WO M (⟨.l t, .eqp neg x y, none⟩ :: l) ⟨⟨pe, lo, hp, df⟩, wr⟩ Q :=
  WO.hlv (v := .bool !neg) (h' := hp) (w' := []) (by simp [heapA, hx, hy, hb]) rfl rfl h
end
theorem retA_loose' {v : AV} {n : Nat} {s : StW} {H : Heap} {wr : List Nat} (hh : s.s.hp = H) (hw : s.wr = wr) (ht : tight H n wr = false) : retA v n s = ⟨v, H, wr.filter (· < n)⟩ := by
  rw [retA_loose (by rw [hh, hw]; exact ht), hh, hw]
theorem WO.sdt {t c o n e : Nat} {x : IOpd} {l : List IOper} {pe : List AV} {lo : List (Nat × AV)} {hp : Heap} {df wr : List Nat} {cap : Option Nat} {Q : StW → Prop} (hx : (St.mk pe lo hp df).opd x = some (.sl c o n e cap)) (hn : 0 < n)
    (h : WO M l ⟨⟨pe, (t, .ptr c o) :: lo, hp, df⟩, wr⟩ Q) : WO M (⟨.l t, .sdata x, none⟩ :: l) ⟨⟨pe, lo, hp, df⟩, wr⟩ Q := by
  cases n with
  | zero => exact absurd hn (Nat.lt_irrefl _)
  | succ m => exact WO.pl (v := .ptr c o) (by simp only [pureA, hx]) rfl h
/-- The text of a block's bytes; the block is given away. -/
theorem WD.ustr {t c : Nat} {e : TypeId} {x y : IOpd} {l : List (IOper × List Nat)} {pe : List AV} {lo : List (Nat × AV)} {hp : Heap} {df wr : List Nat} {ds : List Done} {cs cs' : List AV} {k : IntKind} {n : Int} {s : Str} {Q : StW → Prop} (hx : (St.mk pe lo hp df).opd x = some (.ptr c 0)) (hy : (St.mk pe lo hp df).opd y = some (.int k n))
    (hb : hp.at c = some (.cells cs e)) (hn : 0 < n ∧ n ≤ 70368744177664) (hc : cut cs 0 n.toNat = some cs') (hs : bytesOf cs' = some s) (h : ∀ dn, WD M l ⟨⟨pe, (t, .str s) :: lo, hp.put c none, df⟩, [c] ++ wr⟩ (ds ++ [dn]) Q) : WD M ((⟨.l t, .ustr e x y, none⟩, []) :: l) ⟨⟨pe, lo, hp, df⟩, wr⟩ ds Q := by
  have hT : ([c] : List Nat).contains c = true := by simp
  have hk : (keep [c] hp 0).at c = hp.at c := by rw [keep_at', if_pos hT]
  obtain ⟨⟨m, s', h2, h3⟩⟩ := h ⟨some [c], [c], hp.length, (Heap.put (keep [c] hp 0) c none).length⟩
  refine ⟨⟨m, s', ?_, h3⟩⟩
  have hx' : (St.mk pe lo (keep [c] hp 0) df).opd x = some (.ptr c 0) := by rw [← hx]; cases x <;> rfl
  have hy' : (St.mk pe lo (keep [c] hp 0) df).opd y = some (.int k n) := by rw [← hy]; cases y <;> rfl
  have key : opA (M.call m) M.inv ⟨pe, lo, keep [c] hp 0, df⟩ (.ustr e x y) = some ⟨.str s, Heap.put (keep [c] hp 0) c none, [c]⟩ := by
    simp only [opA, IOp.heapy, if_true, heapA, hx', hy', hk, hb, hc, hs]
    rw [if_pos (by omega)]
  have ht : touchA ⟨pe, lo, hp, df⟩ (.ustr e x y) = some [c] := by
    simp only [touchA, hx]
  have hd : disj [c] [] = true := by simp [disj]
  have hsome : ((keep [c] hp 0).at c).isSome = true := by rw [hk, hb]; rfl
  simp only [drawA, wantedA, IOp.heapy, if_true, ht, List.flatMap_nil, hd, key]
  simp only [List.all_cons, List.all_nil, hsome, Bool.and_self, Bool.or_true, if_true, merge_keep_put']
  exact h2
theorem retA_tight' {v : AV} {n : Nat} {s : StW} {H : Heap} {wr : List Nat} (hh : s.s.hp = H) (hw : s.wr = wr) (hv : v.top ≤ n) (ht : tight H n wr = true) : retA v n s = ⟨v, H.take n, wr.filter (· < n)⟩ := by
  rw [retA_tight hv (by rw [hh, hw]; exact ht), hh, hw]
end Go.Ab


/-
  Own work: parts of texts, the lesser of two numbers, in the calculus of runs.
-/
namespace Go.Ab
variable {M : Mach} {t : Nat} {x y z : IOpd} {l : List IOper} {pe : List AV} {lo : List (Nat × AV)} {hp : Heap} {df wr : List Nat} {s r : Str} {k k' : IntKind} {a b : Int} {Q : StW → Prop}

/-- The end of a text. -/
theorem WO.sse (hx : (St.mk pe lo hp df).opd x = some (.str s)) (hy : (St.mk pe lo hp df).opd y = some (.int k a)) (ha : 0 ≤ a ∧ a ≤ s.length) (hr : s.drop a.toNat = r)
    (h : WO M l ⟨⟨pe, (t, .str r) :: lo, hp, df⟩, wr⟩ Q) : WO M (⟨.l t, .slice .str 1 x (some y) none none, none⟩ :: l) ⟨⟨pe, lo, hp, df⟩, wr⟩ Q := by
  subst hr
  refine WO.pl (v := .str (s.drop a.toNat)) ?_ rfl h
  simp only [pureA, hx, St.oopd, hy, Option.map_some, sliceA, boundA]
  rw [if_pos ha]
  have : (s.drop a.toNat).take (s.length - a.toNat) = s.drop a.toNat := List.take_of_length_le (by simp)
  simp [this]
/-- The beginning of a text. -/
theorem WO.ssb (hx : (St.mk pe lo hp df).opd x = some (.str s)) (hy : (St.mk pe lo hp df).opd y = some (.int k a)) (ha : 0 ≤ a ∧ a ≤ s.length) (hr : s.take a.toNat = r)
    (h : WO M l ⟨⟨pe, (t, .str r) :: lo, hp, df⟩, wr⟩ Q) : WO M (⟨.l t, .slice .str 1 x none (some y) none, none⟩ :: l) ⟨⟨pe, lo, hp, df⟩, wr⟩ Q := by
  subst hr
  refine WO.pl (v := .str (s.take a.toNat)) ?_ rfl h
  simp only [pureA, hx, St.oopd, hy, Option.map_some, sliceA, boundA]
  rw [if_pos ha]
  simp
/-- A part of a text. -/
theorem WO.ssp (hx : (St.mk pe lo hp df).opd x = some (.str s)) (hy : (St.mk pe lo hp df).opd y = some (.int k a)) (hz : (St.mk pe lo hp df).opd z = some (.int k' b)) (ha : 0 ≤ a ∧ a ≤ b ∧ b ≤ s.length) (hr : (s.drop a.toNat).take (b.toNat - a.toNat) = r)
    (h : WO M l ⟨⟨pe, (t, .str r) :: lo, hp, df⟩, wr⟩ Q) : WO M (⟨.l t, .slice .str 1 x (some y) (some z) none, none⟩ :: l) ⟨⟨pe, lo, hp, df⟩, wr⟩ Q := by
  subst hr
  refine WO.pl (v := .str ((s.drop a.toNat).take (b.toNat - a.toNat))) ?_ rfl h
  have h1 : 0 ≤ b ∧ b ≤ (s.length : Int) := ⟨by omega, ha.2.2⟩
  have h2 : 0 ≤ a ∧ a ≤ (b.toNat : Int) := ⟨ha.1, by omega⟩
  simp only [pureA, hx, St.oopd, hy, hz, Option.map_some, sliceA, boundA]
  simp only [Option.isNone_none, Option.isSome_none, Bool.true_or, if_true, if_pos h1, if_pos h2]
/-- The lesser of two numbers, given which. -/
theorem WO.min2 {m : Int} (hx : (St.mk pe lo hp df).opd x = some (.int k a)) (hy : (St.mk pe lo hp df).opd y = some (.int k b)) (hm : m = a ∧ a ≤ b ∨ m = b ∧ b ≤ a)
    (h : WO M l ⟨⟨pe, (t, .int k m) :: lo, hp, df⟩, wr⟩ Q) : WO M (⟨.l t, .mm false [x, y], none⟩ :: l) ⟨⟨pe, lo, hp, df⟩, wr⟩ Q := by
  refine WO.pl (v := .int k m) ?_ rfl h
  simp only [pureA, St.opds, hx, hy]
  have e : (if b < a then b else a) = m := by split <;> omega
  simp [mmA, e]
/-- An operation that has neither looked at a block nor turned one. -/
def plainD (d : Done) : Bool := match d.touch with
  | some [] => d.wr.isEmpty && decide (d.hi - d.lo = 0)
  | _ => false
theorem plainD_own {d : Done} (h : plainD d = true) : d.own = [] ∧ d.touch = some [] := by
  unfold plainD at h
  split at h
  · rename_i ht
    rw [Bool.and_eq_true, List.isEmpty_iff, decide_eq_true_eq] at h
    exact ⟨by rw [Done.own, h.1, h.2]; rfl, ht⟩
  · cases h
theorem plain_own {un : List Nat} {ds : List Done} (hu : un.all (fun j => match ds[j]? with | some d => plainD d | none => false) = true) : (un.flatMap fun j => (ds[j]?).elim [] Done.own) = [] := by
  rw [List.flatMap_eq_nil_iff]
  intro j hj
  have := List.all_eq_true.1 hu j hj
  cases hd : ds[j]? with
  | none => rfl
  | some d => rw [hd] at this; exact (plainD_own this).1
theorem plain_disj {un : List Nat} {ds : List Done} (hu : un.all (fun j => match ds[j]? with | some d => plainD d | none => false) = true) (wr : List Nat) : (un.all fun j => match ds[j]? with | some d => (match d.touch with | some T => disj wr T | none => false) | none => false) = true := by
  rw [List.all_eq_true]
  intro j hj
  have := List.all_eq_true.1 hu j hj
  cases hd : ds[j]? with
  | none => rw [hd] at this; cases this
  | some d =>
    rw [hd] at this
    simp only [(plainD_own this).2]
    simp [disj]
theorem WD.appU {un : List Nat} {d : Dst} {elem : TypeId} {esz bytes : Nat} {x y : IOpd} {l : List (IOper × List Nat)} {s : StW} {ds : List Done} {a b : AV} {Q : StW → Prop} (ha : s.s.opd x = some a) (hb : s.s.opd y = some b)
    (hu : un.all (fun j => match ds[j]? with | some d => plainD d | none => false) = true) (h : ∀ dn, WO M [⟨d, .append elem esz bytes x y, none⟩] s fun s' => WD M l s' (ds ++ [dn]) Q) : WD M ((⟨d, .append elem esz bytes x y, none⟩, un) :: l) s ds Q := by
  have key : ∀ h0, opA (M.call 0) M.inv { s.s with hp := h0 } (.append elem esz bytes x y) = appendA elem esz bytes h0 a b := fun h0 => by
    have hx' : (St.mk s.s.pe s.s.lo h0 s.s.dfs).opd x = some a := by rw [← ha]; cases x <;> rfl
    have hy' : (St.mk s.s.pe s.s.lo h0 s.s.dfs).opd y = some b := by rw [← hb]; cases y <;> rfl
    simp only [opA, IOp.heapy, if_true, heapA, hx', hy']
  have keyn : ∀ n h0, opA (M.call n) M.inv { s.s with hp := h0 } (.append elem esz bytes x y) = appendA elem esz bytes h0 a b := fun n h0 => by
    have hx' : (St.mk s.s.pe s.s.lo h0 s.s.dfs).opd x = some a := by rw [← ha]; cases x <;> rfl
    have hy' : (St.mk s.s.pe s.s.lo h0 s.s.dfs).opd y = some b := by rw [← hb]; cases y <;> rfl
    simp only [opA, IOp.heapy, if_true, heapA, hx', hy']
  cases hq : appendA elem esz bytes s.s.hp a b with
  | none =>
    obtain ⟨⟨k, s1, h1, _⟩⟩ := h ⟨none, [], 0, 0⟩
    simp only [opersA, wantedA] at h1
    rw [show opA (M.call k) M.inv s.s (.append elem esz bytes x y) = none from (keyn k s.s.hp).trans hq] at h1
    cases h1
  | some r =>
    obtain ⟨h', e1, e2, e3⟩ := append_keep (T := blkOf (some a) ++ blkOf (some b)) (fun c hc => List.mem_append_left _ hc) (fun c hc => List.mem_append_right _ hc) hq
    obtain ⟨⟨k, s1, h1, ⟨⟨m, s', h2, h3⟩⟩⟩⟩ := h ⟨some (blkOf (some a) ++ blkOf (some b)), r.wr, s.s.hp.length, h'.length⟩
    refine ⟨⟨m, s', ?_, h3⟩⟩
    simp only [opersA, wantedA] at h1
    rw [show opA (M.call k) M.inv s.s (.append elem esz bytes x y) = some r from (keyn k s.s.hp).trans hq] at h1
    simp only [Option.some.injEq] at h1
    have ht : touchA s.s (.append elem esz bytes x y) = some (blkOf (some a) ++ blkOf (some b)) := by
      simp only [touchA, ha, hb]
      congr 1
    have hU := plain_own hu
    have hW := plain_disj hu r.wr
    have hd : disj (blkOf (some a) ++ blkOf (some b)) [] = true := by simp [disj]
    simp only [drawA, wantedA, IOp.heapy, if_true, ht, hU, hd]
    rw [show opA (M.call m) M.inv { s.s with hp := keep (blkOf (some a) ++ blkOf (some b)) s.s.hp 0 } (.append elem esz bytes x y) = some ⟨r.v, h', r.wr⟩ from (keyn m _).trans e1]
    have hw : (r.wr.all fun c => ((keep (blkOf (some a) ++ blkOf (some b)) s.s.hp 0).at c).isSome) = true := by
      rw [List.all_eq_true]; exact e3
    simp only [e2]
    rw [← h1] at h2
    refine Eq.trans (if_pos ?_) h2
    rw [Bool.and_eq_true, Bool.or_eq_true]
    exact ⟨hw, .inr hW⟩
/-! Comparisons that do not part the ways. -/
theorem WO.eqlD (hx : (St.mk pe lo hp df).opd x = some (.int k a)) (hy : (St.mk pe lo hp df).opd y = some (.int k b)) (h : WO M l ⟨⟨pe, (t, .bool (decide (a = b))) :: lo, hp, df⟩, wr⟩ Q) : WO M (⟨.l t, .bin .eql x y, none⟩ :: l) ⟨⟨pe, lo, hp, df⟩, wr⟩ Q :=
  WO.pl (v := .bool (decide (a = b))) (by simp only [pureA, hx, hy, binA]; by_cases e : a = b <;> simp [e]) rfl h
theorem WO.neqD (hx : (St.mk pe lo hp df).opd x = some (.int k a)) (hy : (St.mk pe lo hp df).opd y = some (.int k b)) (h : WO M l ⟨⟨pe, (t, .bool (decide (a ≠ b))) :: lo, hp, df⟩, wr⟩ Q) : WO M (⟨.l t, .bin .neq x y, none⟩ :: l) ⟨⟨pe, lo, hp, df⟩, wr⟩ Q :=
  WO.pl (v := .bool (decide (a ≠ b))) (by simp only [pureA, hx, hy, binA]; by_cases e : a = b <;> simp [e]) rfl h
theorem WO.gtrD (hx : (St.mk pe lo hp df).opd x = some (.int k a)) (hy : (St.mk pe lo hp df).opd y = some (.int k b)) (h : WO M l ⟨⟨pe, (t, .bool (decide (a > b))) :: lo, hp, df⟩, wr⟩ Q) : WO M (⟨.l t, .bin .gtr x y, none⟩ :: l) ⟨⟨pe, lo, hp, df⟩, wr⟩ Q :=
  WO.pl (v := .bool (decide (a > b))) (by simp [pureA, hx, hy, binA]) rfl h
end Go.Ab


/-
  Own work: a contract of the kit's shelf ('the call returns this, and nothing below has turned') as a contract of the abstract machine.
-/
namespace Go.Ab
open Go.RowKit
variable {P : Program} {gl : Nat → Option AV} {ρ : Own} {h : Heap} {w w' : World}

end Go.Ab

