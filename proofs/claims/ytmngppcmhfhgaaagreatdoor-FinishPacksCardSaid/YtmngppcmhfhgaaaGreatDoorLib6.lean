/-
  Own work: packed images: runs of columns, their text, and what it is read as.
-/
import Derived.Test.YtmngppcmhfhgaaaGreatDoorLib5
import Derived.KernelRfl
namespace Go.Ab.Ch5

def bodyOf (p : Nat × Str) : Str := decD p.1 ++ 32 :: p.2
def blkText : List (Nat × Str) → Str
  | [] => []
  | p :: r => bodyOf p ++ 10 :: blkText r
def blkCols : List (Nat × Str) → List Str
  | [] => []
  | p :: r => List.replicate p.1 p.2 ++ blkCols r
def addRn (t : Nat) (x : Str) : List (Nat × Str) → List (Nat × Str)
  | [] => [(t, x)]
  | (n, y) :: r => if y = x then (n + t, y) :: r else (t, x) :: (n, y) :: r
def runsOf : List Str → List (Nat × Str)
  | [] => []
  | x :: l => addRn 1 x (runsOf l)

/-! Runs. -/
theorem runs_cons : ∀ (l : List Str) (x : Str), runsOf (x :: l) = (runLen x (x :: l), x) :: runsOf ((x :: l).drop (runLen x (x :: l)))
  | [], x => by simp [runsOf, addRn, runLen]
  | y :: l, x => by
    rw [runsOf, runs_cons l y]
    by_cases h : y = x
    · subst h
      have e : runLen y (y :: y :: l) = runLen y (y :: l) + 1 := by rw [runLen, if_pos rfl]
      rw [e, List.drop_succ_cons]
      simp [addRn]
    · have e : runLen x (x :: y :: l) = 1 := by
        have h0 : runLen x (y :: l) = 0 := by rw [runLen, if_neg h]
        rw [runLen, if_pos rfl, h0]
      rw [e, List.drop_succ_cons, List.drop_zero, runs_cons l y, addRn, if_neg h]
theorem pack_runs : ∀ (k : Nat) (l : List Str), l.length ≤ k → packN k l = blkText (runsOf l)
  | 0, l, h => by
    obtain rfl : l = [] := List.length_eq_zero_iff.1 (by omega)
    rfl
  | k + 1, [], _ => rfl
  | k + 1, x :: l, h => by
    have hp : 0 < runLen x (x :: l) := by rw [runLen, if_pos rfl]; omega
    rw [runs_cons, packN, blkText, pack_runs k _ (by rw [List.length_drop]; omega)]
    simp [bodyOf]
theorem addRn_cols {t : Nat} {x : Str} : ∀ r, blkCols (addRn t x r) = List.replicate t x ++ blkCols r
  | [] => rfl
  | (n, y) :: r => by
    rw [addRn]
    split
    · rename_i h
      subst h
      rw [blkCols, blkCols, ← List.append_assoc, List.replicate_append_replicate, Nat.add_comm]
    · rfl
theorem runs_cols : ∀ l, blkCols (runsOf l) = l
  | [] => rfl
  | x :: l => by rw [runsOf, addRn_cols, runs_cols l]; rfl
theorem addRn_mem {t : Nat} {x : Str} (ht : 1 ≤ t) {P : Str → Prop} (hx : P x) : ∀ r : List (Nat × Str), (∀ p ∈ r, 1 ≤ p.1 ∧ P p.2) → ∀ p ∈ addRn t x r, 1 ≤ p.1 ∧ P p.2
  | [], _, p, hp => by
    simp only [addRn, List.mem_singleton] at hp
    subst hp; exact ⟨ht, hx⟩
  | (n, y) :: r, h, p, hp => by
    rw [addRn] at hp
    split at hp
    · rcases List.mem_cons.1 hp with rfl | hp
      · have := h (n, y) (by simp); exact ⟨by simp; omega, this.2⟩
      · exact h p (by simp [hp])
    · rcases List.mem_cons.1 hp with rfl | hp
      · exact ⟨ht, hx⟩
      · exact h p hp
theorem runs_mem {P : Str → Prop} : ∀ l : List Str, (∀ x ∈ l, P x) → ∀ p ∈ runsOf l, 1 ≤ p.1 ∧ P p.2
  | [], _, p, hp => by cases hp
  | x :: l, h, p, hp => addRn_mem (Nat.le_refl 1) (h x (by simp)) _ (runs_mem l fun y hy => h y (by simp [hy])) p hp
theorem cols_len : ∀ r : List (Nat × Str), (∀ p ∈ r, 1 ≤ p.1) → r.length ≤ (blkCols r).length ∧ ∀ p ∈ r, p.1 ≤ (blkCols r).length
  | [], _ => ⟨Nat.le_refl _, fun p hp => by cases hp⟩
  | p :: r, h => by
    obtain ⟨h1, h2⟩ := cols_len r fun q hq => h q (by simp [hq])
    have := h p (by simp)
    rw [blkCols]
    simp only [List.length_append, List.length_replicate, List.length_cons]
    refine ⟨by omega, fun q hq => ?_⟩
    rcases List.mem_cons.1 hq with rfl | hq
    · omega
    · have := h2 q hq; omega
theorem addRn_succ {t : Nat} {x : Str} : ∀ r, addRn 1 x (addRn t x r) = addRn (t + 1) x r
  | [] => by simp [addRn]
  | (n, y) :: r => by
    rw [addRn, addRn]
    by_cases h : y = x
    · rw [if_pos h, if_pos h, addRn, if_pos h]
      rfl
    · rw [if_neg h, if_neg h, addRn, if_pos rfl]
theorem runs_rep (x : Str) (L : List Str) : ∀ t : Nat, runsOf (List.replicate (t + 1) x ++ L) = addRn (t + 1) x (runsOf L)
  | 0 => rfl
  | t + 1 => by rw [List.replicate_succ, List.cons_append, runsOf, runs_rep x L t, addRn_succ]
theorem addRn_map {t : Nat} {x : Str} : ∀ r : List (Nat × Str), (addRn 1 x r).map (fun p => (p.1 * t, p.2)) = addRn t x (r.map fun p => (p.1 * t, p.2))
  | [] => by simp [addRn]
  | (n, y) :: r => by
    simp only [List.map_cons]
    rw [addRn, addRn]
    by_cases h : y = x
    · rw [if_pos h, if_pos h]
      simp only [List.map_cons, Nat.add_mul, Nat.one_mul]
    · rw [if_neg h, if_neg h]
      simp only [List.map_cons, Nat.one_mul]
theorem runs_strL {t : Nat} (ht : 1 ≤ t) : ∀ l : List Str, runsOf (strL t l) = (runsOf l).map fun p => (p.1 * t, p.2)
  | [] => rfl
  | x :: l => by
    obtain ⟨t, rfl⟩ : ∃ k, t = k + 1 := ⟨t - 1, by omega⟩
    have e : strL (t + 1) (x :: l) = List.replicate (t + 1) x ++ strL (t + 1) l := rfl
    rw [e, runs_rep, runs_strL ht l, runsOf, addRn_map]

/-! Decimals of small numbers. -/
def okN (n : Nat) : Bool := intOk (decD n) && (dvF 0 (decD n) == n) && (decD n).all isD && decide ((decD n).length ≤ 3) && decide ((decD n).length ≤ n)
theorem okN_all : (List.range 400).all (fun n => n == 0 || okN n) = true := by kernel_rfl
structure DecOK (n : Nat) : Prop where
  ok : intOk (decD n) = true
  val : dvF 0 (decD n) = n
  dig : (decD n).all isD = true
  len : (decD n).length ≤ 3
  le : (decD n).length ≤ n
theorem dec_ok {n : Nat} (h0 : 1 ≤ n) (h : n < 400) : DecOK n := by
  have := List.all_eq_true.1 okN_all n (by simpa using h)
  rw [Bool.or_eq_true, beq_iff_eq] at this
  rcases this with h1 | h1
  · omega
  · simp only [okN, Bool.and_eq_true, decide_eq_true_eq, beq_iff_eq] at h1
    exact ⟨h1.1.1.1.1, h1.1.1.1.2, h1.1.1.2, h1.1.2, h1.2⟩

/-! The lines of the text. -/
structure Good (rows : Nat) (p : Nat × Str) : Prop where
  n1 : 1 ≤ p.1
  n2 : p.1 < 400
  len : p.2.length = rows
  pix : p.2.all pixB = true
theorem spl1_app {b : UInt8} {T : Str} : ∀ {a : Str}, b ∉ a → spl1 b (a ++ b :: T) = (a, some T)
  | [], _ => by simp [spl1]
  | c :: a, h => by
    have hc : c ≠ b := fun e => h (by simp [e])
    rw [List.cons_append, spl1, if_neg hc, spl1_app (a := a) fun h' => h (by simp [h'])]
theorem not_mem_dig {n : Nat} (h : DecOK n) {b : UInt8} (hb : isD b = false) : b ∉ decD n := fun hm => by
  have := List.all_eq_true.1 h.dig b hm
  rw [hb] at this; cases this
theorem not_mem_pix {x : Str} (h : x.all pixB = true) {b : UInt8} (hb : pixB b = false) : b ∉ x := fun hm => by
  have := List.all_eq_true.1 h b hm
  rw [hb] at this; cases this
theorem body_no {rows : Nat} {p : Nat × Str} (h : Good rows p) : (10 : UInt8) ∉ bodyOf p := by
  have h1 := not_mem_dig (dec_ok h.n1 h.n2) (b := 10) (by decide)
  have h2 := not_mem_pix h.pix (b := 10) (by decide)
  unfold bodyOf
  simp [h1, h2]
theorem lines_blk {rows : Nat} : ∀ bs : List (Nat × Str), (∀ p ∈ bs, Good rows p) → (splitL 10 (blkText bs)).dropLast = bs.map bodyOf
  | [], _ => rfl
  | p :: r, h => by
    have e := spl1_app (T := blkText r) (body_no (h p (by simp)))
    have e2 := (spl1_some (b := 10) (s := bodyOf p ++ 10 :: blkText r) (y := blkText r) (by rw [e])).2.1
    rw [e] at e2
    rw [blkText, e2, List.map_cons, ← lines_blk r fun q hq => h q (by simp [hq])]
    cases hs : splitL 10 (blkText r) with
    | nil => exact absurd hs (splitL_ne 10 _)
    | cons a l => rfl
theorem cnt_blk {rows : Nat} {bs : List (Nat × Str)} (h : ∀ p ∈ bs, Good rows p) : cntB 10 (blkText bs) = bs.length := by
  have h1 := congrArg List.length (lines_blk bs h)
  have h2 := splitL_len 10 (blkText bs)
  simp only [List.length_dropLast, List.length_map] at h1
  omega
theorem hasB_no {x : Str} (h : (32 : UInt8) ∉ x) : hasB 32 x = false := by
  rw [hasB, List.any_eq_false]
  intro y hy
  simp only [decide_eq_true_eq]
  intro e
  have : y = 32 := UInt8.toNat_inj.1 (by show y.toNat = 32; omega)
  exact h (this ▸ hy)
theorem line_blk {rows : Nat} (hr : 1 ≤ rows) {p : Nat × Str} (h : Good rows p) {cols : List Str} (hc : cols = [] ∨ (cols[0]!).length = rows) (hk : cols.length + p.1 ≤ 4096) : lineE cols (bodyOf p) = 0 ∧ lnN (bodyOf p) = p.1 ∧ lnX (bodyOf p) = p.2 := by
  have hd := dec_ok h.n1 h.n2
  have e := spl1_app (T := p.2) (not_mem_dig hd (b := 32) (by decide))
  have eC : lnC (bodyOf p) = decD p.1 := by rw [lnC, bodyOf, e]
  have eX : lnX (bodyOf p) = p.2 := by rw [lnX, bodyOf, e]; rfl
  have eN : lnN (bodyOf p) = p.1 := by rw [lnN, eC, hd.ok, if_pos rfl, hd.val]
  have hx : p.2 ≠ [] := fun e => by have := h.len; rw [e] at this; simp at this; omega
  have eO : lnOk (bodyOf p) = true := by
    rw [lnOk, eC, eX, hd.ok, decide_eq_true hx, hasB_no (not_mem_pix h.pix (by decide))]; rfl
  have hR : rowsOf cols p.2 = rows := by
    unfold rowsOf
    split
    · exact h.len
    · rename_i hn
      rcases hc with hc | hc
      · exact absurd hc hn
      · exact hc
  refine ⟨?_, eN, eX⟩
  have hn1 := h.n1
  unfold lineE errOf
  rw [eO, eN, eX, hR, if_neg (by decide), if_neg (by omega), if_neg (by omega), colE, if_neg (by rw [h.len]; simp), if_pos h.pix]
theorem unpL_blk {rows : Nat} (hr : 1 ≤ rows) : ∀ (bs : List (Nat × Str)) (cols : List Str) (i : Nat), (∀ p ∈ bs, Good rows p) → (cols = [] ∨ (cols[0]!).length = rows) → cols.length + (blkCols bs).length ≤ 4096 → unpL cols i (bs.map bodyOf) = (0, 0, cols ++ blkCols bs)
  | [], cols, i, _, _, _ => by simp [unpL, blkCols]
  | p :: r, cols, i, h, hc, hk => by
    have hp := h p (by simp)
    rw [blkCols, List.length_append, List.length_replicate] at hk
    obtain ⟨h1, h2, h3⟩ := line_blk hr hp hc (by omega)
    rw [List.map_cons, unpL, if_neg (by rw [h1]; decide), h2, h3, unpL_blk hr r _ _ (fun q hq => h q (by simp [hq])) ?_ ?_, blkCols, List.append_assoc]
    · right
      rw [← rows_app (x := p.2) hp.n1, rowsOf]
      split
      · exact hp.len
      · rename_i hn
        rcases hc with hc | hc
        · exact absurd hc hn
        · exact hc
    · rw [List.length_append, List.length_replicate]; omega
theorem blk_end : ∀ bs : List (Nat × Str), bs ≠ [] → ∃ t, blkText bs = t ++ [10]
  | [], h => absurd rfl h
  | [p], _ => ⟨bodyOf p, rfl⟩
  | p :: q :: r, _ => by
    obtain ⟨t, ht⟩ := blk_end (q :: r) (by simp)
    exact ⟨bodyOf p ++ 10 :: t, by rw [blkText, ht]; simp⟩
theorem unpR_blk {rows : Nat} (hr : 1 ≤ rows ∧ rows ≤ 64) {bs : List (Nat × Str)} (h0 : bs ≠ []) (h : ∀ p ∈ bs, Good rows p) (hk : (blkCols bs).length ≤ 4096) (hl : (blkText bs).length ≤ 4096) : unpR (blkText bs) = ((rows : Int), blkCols bs, (0 : Int), (0 : Int)) := by
  obtain ⟨t, ht⟩ := blk_end bs h0
  have he : endB 10 (blkText bs) = true := by rw [ht]; simp [endB]
  have hc : unpC (blkText bs) = (0, 0, blkCols bs) := by
    rw [unpC, lines_end he, lines_blk bs h, unpL_blk hr.1 bs [] 0 h (.inl rfl) (by simpa using hk)]
    rfl
  have hrow : ((blkCols bs)[0]!).length = rows := by
    cases bs with
    | nil => exact absurd rfl h0
    | cons p r =>
      have hp := h p (by simp)
      have := rows_app (cols := []) (x := p.2) (n := p.1) hp.n1
      obtain ⟨m, hm⟩ : ∃ m, p.1 = m + 1 := ⟨p.1 - 1, by have := hp.n1; omega⟩
      rw [blkCols, hm, List.replicate_succ]
      exact hp.len
  rw [unpR, if_neg (by omega), if_neg (by rw [he]; simp), hc, if_neg (fun h => h rfl), hrow, if_neg (by omega)]

/-! Lengths. -/
theorem len_blk {rows : Nat} : ∀ bs : List (Nat × Str), (∀ p ∈ bs, Good rows p) → (blkText bs).length ≤ bs.length * (rows + 5) ∧ (blkText bs).length ≤ (blkCols bs).length * (rows + 3)
  | [], _ => by simp [blkText]
  | p :: r, h => by
    obtain ⟨h1, h2⟩ := len_blk r fun q hq => h q (by simp [hq])
    have hp := h p (by simp)
    have hd := dec_ok hp.n1 hp.n2
    have e : (blkText (p :: r)).length = (decD p.1).length + rows + 2 + (blkText r).length := by
      rw [blkText, bodyOf]
      simp only [List.length_append, List.length_cons, hp.len]
      omega
    have hd1 := hd.len
    have hd2 := hd.le
    have hn1 := hp.n1
    rw [e]
    constructor
    · rw [List.length_cons, Nat.succ_mul]; omega
    · have e2 : (blkCols (p :: r)).length = p.1 + (blkCols r).length := by
        rw [blkCols, List.length_append, List.length_replicate]
      rw [e2, Nat.add_mul]
      obtain ⟨m, hm⟩ : ∃ m, p.1 = m + 1 := ⟨p.1 - 1, by omega⟩
      have hm2 : p.1 * (rows + 3) = m * (rows + 3) + (rows + 3) := by rw [hm, Nat.succ_mul]
      have hm3 : m * 1 ≤ m * (rows + 3) := Nat.mul_le_mul_left m (by omega)
      omega
/-- The image, column by column. -/
def ones (l : List Str) : List (Nat × Str) := l.map fun x => (1, x)
theorem ones_cols : ∀ l, blkCols (ones l) = l
  | [] => rfl
  | x :: l => by
    show List.replicate 1 x ++ blkCols (ones l) = _
    rw [ones_cols l]; rfl
theorem ones_len {rows : Nat} : ∀ l : List Str, (∀ x ∈ l, x.length = rows) → (blkText (ones l)).length = l.length * (rows + 3)
  | [], _ => by simp [ones, blkText]
  | x :: l, h => by
    have := ones_len l fun y hy => h y (by simp [hy])
    have hx := h x (by simp)
    show (bodyOf (1, x) ++ 10 :: blkText (ones l)).length = _
    have hd : (decD 1).length = 1 := by rfl
    simp only [bodyOf, List.length_append, List.length_cons, this, hx, hd, Nat.succ_mul]
    omega
end Go.Ab.Ch5


/-
  Own work: the law FinishPacks.
-/
namespace Go.Ab.Ch5
variable {M : Mach} {cap : Option Nat}

theorem cnt_drop {b : UInt8} {s : Str} {i : Nat} (h : i < s.length) : cntB b (s.drop i) = (if s[i]! = b then 1 else 0) + cntB b (s.drop (i + 1)) := by
  rw [List.drop_eq_getElem_cons h, cntB, getElem!_pos s i h]
theorem loop77 (s : Str) (hs : s.length < 1000000) (a1 : AV) {Q : Ex → StW → Prop} : ∀ (r i n : Nat) (lo : List (Nat × AV)) (wr : List Nat), i + r = s.length → n ≤ i →
    (∀ lo, Q (.exit 0) ⟨⟨[.str s, a1, .int .i64 ((n + cntB 10 (s.drop i) : Nat) : Int), .int .i64 s.length], lo, [], []⟩, wr⟩) → W M (.loop b77_0) ⟨⟨[.str s, a1, .int .i64 n, .int .i64 i], lo, [], []⟩, wr⟩ Q := by
  intro r
  induction r with
  | zero =>
    intro i n lo wr hi hn hQ
    obtain rfl : i = s.length := by omega
    rw [List.drop_length] at hQ
    refine W.loop ?_
    unfold b77_0
    repeat' first | apply W.seq | apply SQn | apply W.region | apply WO.nil | apply W.exit | apply SQe | apply LQe | (apply W.condF; exact rfl) | (apply WO.lss; exact rfl; exact rfl; all_goals first | (intro _; exfalso; omega) | intro _) | (apply WO.pl; exact rfl; exact rfl)
    exact hQ _
  | succ r ih =>
    intro i n lo wr hi hn hQ
    have hil : i < s.length := by omega
    have ei : ((i : Int)).toNat = i := Int.toNat_natCast i
    rw [cnt_drop hil] at hQ
    refine W.loop ?_
    unfold b77_0
    by_cases hc : s[i]! = 10
    · have hg : (s[((i : Int)).toNat]!).toNat = 10 := by rw [ei, hc]; rfl
      rw [if_pos hc, ← Nat.add_assoc] at hQ
      repeat' first | apply W.seq | apply SQn | apply W.region | apply WO.nil | apply W.block | apply W.skip | apply BQn | (apply W.condT; exact rfl) | (apply WO.lss; exact rfl; exact rfl; all_goals first | (intro _; exfalso; omega) | intro _) | (apply WO.eql; exact rfl; exact rfl; all_goals first | (intro _; exfalso; omega) | intro _) | (apply WO.add; exact rfl; exact rfl; omega) | (apply WO.idx; exact rfl; exact rfl; omega) | (apply WO.pl; exact rfl; exact rfl) | (apply WO.pp; exact rfl; exact rfl)
      refine LQn ?_
      exact ih (i + 1) (n + 1) _ _ (by omega) (by omega) hQ
    · have hg : (s[((i : Int)).toNat]!).toNat ≠ 10 := fun h => hc (by rw [ei] at h; exact UInt8.toNat_inj.1 (h.trans rfl))
      rw [if_neg hc, Nat.zero_add] at hQ
      repeat' first | apply W.seq | apply SQn | apply W.region | apply WO.nil | apply W.block | apply W.skip | apply BQn | (apply W.condT; exact rfl) | (apply W.condF; exact rfl) | (apply WO.lss; exact rfl; exact rfl; all_goals first | (intro _; exfalso; omega) | intro _) | (apply WO.eql; exact rfl; exact rfl; all_goals first | (intro _; exfalso; omega) | intro _) | (apply WO.add; exact rfl; exact rfl; omega) | (apply WO.idx; exact rfl; exact rfl; omega) | (apply WO.pl; exact rfl; exact rfl) | (apply WO.pp; exact rfl; exact rfl)
      refine LQn ?_
      exact ih (i + 1) n _ _ (by omega) (by omega) hQ
theorem w77 (hft : M.FT = FT) (s : Str) (hs : s.length < 1000000) : Run M 77 [.str s] [] ⟨.int .i64 (cntB 10 s), [], []⟩ := by
  refine run_of_W (by rw [hft]; exact ft77) (by simp) ?_
  unfold b77
  simp only [List.map_cons, List.map_nil, List.getElem?_cons_zero, List.getElem?_cons_succ, List.getElem?_nil, Option.getD_some, Option.getD_none]
  repeat' first | apply W.seq | apply SQn | apply W.region | apply WO.nil | apply W.block | (apply WO.pp; exact rfl; exact rfl)
  refine loop77 s hs _ s.length 0 0 _ _ (by omega) (by omega) (fun lo => ?_)
  rw [List.drop_zero, Nat.zero_add]
  repeat' first | apply W.seq | apply SQn | apply W.region | apply WO.nil | apply W.ret | apply BQe | (apply WO.pl; exact rfl; exact rfl) | (apply WO.pp; exact rfl; exact rfl)
  exact ⟨.inr rfl, rfl, _, rfl, rfl, rfl⟩
theorem colsE_of {rows : Int} : ∀ {l : List Str}, (∀ s ∈ l, (s.length : Int) = rows ∧ s.all pixB = true) → colsE rows l = 0
  | [], _ => rfl
  | x :: l, h => by
    have hx := h x (by simp)
    have e : colE rows x = 0 := by rw [colE, if_neg (fun h' => h' hx.1), if_pos hx.2]
    rw [colsE, if_neg (fun h' => h' e)]
    exact colsE_of fun s hs => h s (by simp [hs])
theorem imgE_of {rows : Int} {l : List Str} (hr : 1 ≤ rows ∧ rows ≤ 64) (h0 : l ≠ []) (hl : l.length ≤ 4096) (h : ∀ s ∈ l, (s.length : Int) = rows ∧ s.all pixB = true) : imgE rows l = 0 := by
  have hpos : 0 < l.length := List.length_pos_iff.2 h0
  have e : headE rows l.length = 0 := by
    have ho : outI rows 1 64 = false := by simp [outI]; omega
    rw [headE, ho, if_neg (by decide), if_neg (by omega), if_neg (by omega)]
  rw [imgE, if_neg (fun h' => h' e)]
  exact colsE_of h
/-- What is known of an image that is well formed and short. -/
structure PkF (rows : Int) (l : List Str) : Prop where
  pack : packR rows l = (packL l, 0)
  un : unpR (packL l) = (rows, l, 0, 0)
  len : (packL l).length ≤ 2760
  cnt : cntB 10 (packL l) = (runsOf l).length
  le : ∀ R : Nat, rows = R → (packL l).length ≤ l.length * (R + 3)
theorem pkF {rows : Int} {l : List Str} (hE : imgE rows l = 0) (hl : l.length < 400) (hr : (runsOf l).length ≤ 40) : PkF rows l := by
  obtain ⟨h1, h2⟩ := imgE_all hE
  obtain ⟨R, rfl⟩ : ∃ R : Nat, rows = R := ⟨rows.toNat, by omega⟩
  have hne := imgE_ne hE
  have hc := runs_cols l
  have hm := runs_mem (P := fun x => x.length = R ∧ x.all pixB = true) l fun x hx => ⟨by have := (h2 x hx).1; omega, (h2 x hx).2⟩
  have hcl := (cols_len (runsOf l) fun p hp => (hm p hp).1).2
  rw [hc] at hcl
  have hg : ∀ p ∈ runsOf l, Good R p := fun p hp => ⟨(hm p hp).1, by have := hcl p hp; omega, (hm p hp).2.1, (hm p hp).2.2⟩
  have e : packL l = blkText (runsOf l) := pack_runs _ _ (Nat.le_refl _)
  have hlen := len_blk (runsOf l) hg
  have hle : (blkText (runsOf l)).length ≤ 2760 := by
    have : (runsOf l).length * (R + 5) ≤ 40 * 69 := Nat.mul_le_mul hr (by omega)
    omega
  have h0 : runsOf l ≠ [] := fun h => by rw [h] at hc; exact hne hc.symm
  have hu := unpR_blk (rows := R) (by omega) h0 hg (by rw [hc]; omega) (by omega)
  rw [hc] at hu
  refine ⟨?_, by rw [e]; exact hu, by rw [e]; exact hle, by rw [e]; exact cnt_blk hg, fun R' hR => ?_⟩
  · rw [packR, if_neg (fun h => h hE), if_neg (by rw [e]; omega)]
  · obtain rfl : R = R' := by omega
    rw [e]
    have := hlen.2
    rw [hc] at this
    exact this
theorem runs_len (l : List Str) : (runsOf l).length ≤ l.length := by
  have := (cols_len (runsOf l) fun p hp => (runs_mem (P := fun _ => True) l (fun _ _ => trivial) p hp).1).1
  rw [runs_cols] at this
  exact this
theorem strL_mem {t : Nat} {l : List Str} {x : Str} (h : x ∈ strL t l) : x ∈ l := by
  rw [strL, List.mem_flatMap] at h
  obtain ⟨y, h1, h2⟩ := h
  rw [List.mem_replicate] at h2
  exact h2.2 ▸ h1
theorem imgE_strL {rows : Int} {l : List Str} {t : Nat} (hE : imgE rows l = 0) (ht : 1 ≤ t) (hl : l.length * t ≤ 4096) : imgE rows (strL t l) = 0 := by
  obtain ⟨h1, h2⟩ := imgE_all hE
  have hpos : 0 < l.length := List.length_pos_iff.2 (imgE_ne hE)
  refine imgE_of h1 (fun h => ?_) (by rw [strL_len]; exact hl) fun s hs => h2 s (strL_mem hs)
  have := strL_len t l
  rw [h] at this
  have h3 : 0 < l.length * t := Nat.mul_pos hpos (by omega)
  simp at this
  omega
theorem imgE_rev {rows : Int} {l : List Str} (hE : imgE rows l = 0) : imgE rows l.reverse = 0 := by
  obtain ⟨h1, h2⟩ := imgE_all hE
  exact imgE_of h1 (fun h => imgE_ne hE (List.reverse_eq_nil_iff.1 h)) (by rw [List.length_reverse]; exact imgE_small hE) fun s hs => h2 s (List.mem_reverse.1 hs)
theorem ones_un {rows : Int} {l : List Str} (hE : imgE rows l = 0) (hl : l.length ≤ 40) : unpR (blkText (ones l)) = (rows, l, 0, 0) ∧ ∀ R : Nat, rows = R → (blkText (ones l)).length = l.length * (R + 3) := by
  obtain ⟨h1, h2⟩ := imgE_all hE
  obtain ⟨R, rfl⟩ : ∃ R : Nat, rows = R := ⟨rows.toNat, by omega⟩
  have hlen := ones_len (rows := R) l fun x hx => by have := (h2 x hx).1; omega
  have hg : ∀ p ∈ ones l, Good R p := fun p hp => by
    rw [ones, List.mem_map] at hp
    obtain ⟨x, hx, rfl⟩ := hp
    exact ⟨Nat.le_refl 1, (by decide : 1 < 400), by have := (h2 x hx).1; show x.length = R; omega, (h2 x hx).2⟩
  have hb : l.length * (R + 3) ≤ 40 * 67 := Nat.mul_le_mul hl (by omega)
  have h0 : ones l ≠ [] := fun h => imgE_ne hE (List.map_eq_nil_iff.1 h)
  have hu := unpR_blk (rows := R) (by omega) h0 hg (by rw [ones_cols]; omega) (by omega)
  rw [ones_cols] at hu
  exact ⟨hu, fun R' hR => by obtain rfl : R = R' := by omega
                             exact hlen⟩
theorem strE_ok {rows : Int} {l : List Str} {t : Nat} (hE : imgE rows l = 0) (ht : 1 ≤ t ∧ t ≤ 4096) (hl : l.length * t ≤ 4096) : strE rows l t = 0 := by
  have ho : outI (t : Int) 1 4096 = false := by simp [outI]; omega
  have hm : (l.length : Int) * (t : Int) ≤ 4096 := by rw [← Int.natCast_mul]; omega
  rw [strE, if_neg (fun h => h hE), ho, if_neg (by decide), if_neg (by omega)]
theorem strL_one : ∀ l : List Str, strL 1 l = l
  | [] => rfl
  | x :: l => by
    show List.replicate 1 x ++ strL 1 l = _
    rw [strL_one l]; rfl
/-- What FinishPacks calls. -/
structure Calls14 (M : Mach) : Prop where
  c15 : ∀ h, M.ext 15 [] h = some ⟨.bool true, h, []⟩
  c16 : ∀ rows (l : List Str) cap h, M.ext 16 [.agg [.int .i64 rows, .vs (strs l) l.length cap]] h = some ⟨.bool (shortB l), h, []⟩
  c17 : ∀ rows v (l : List Str) h, strsAt h v = some l → (∀ s ∈ l, s.length < 4611686018427387904) → l.length < 400 → M.ext 17 [.agg [.int .i64 rows, v]] h = some ⟨.tup [.str (packR rows l).1, .int .i64 (packR rows l).2], h, []⟩
  c18 : ∀ rows (l : List Str) cap h, (∀ s ∈ l, s.length < 4611686018427387904) → l.length < 1000000 → M.ext 18 [.agg [.int .i64 rows, .vs (strs l) l.length cap]] h = some ⟨.int .i64 (imgE rows l), h, []⟩
  c21s : ∀ (s : Str) h, s.length < 1000000 → (unpR s).2.1 ≠ [] → M.ext 21 [.str s] h = some ⟨.tup [.agg [.int .i64 (unpR s).1, .sl h.length 0 (unpR s).2.1.length 1 none], .int .i64 (unpR s).2.2.1, .int .i64 (unpR s).2.2.2], h ++ [some (.cells (strs (unpR s).2.1) 9)], []⟩
  c71 : ∀ rows v (l : List Str) h, strsAt h v = some l → (∀ s ∈ l, s.length < 4611686018427387904) → l.length < 1000000 → imgE rows l = 0 → M.ext 71 [.agg [.int .i64 rows, v]] h = some ⟨.tup [.agg [.int .i64 rows, .sl h.length 0 l.reverse.length 1 none], .int .i64 0], h ++ [some (.cells (strs l.reverse) 9)], []⟩
  c66 : ∀ rows (l : List Str) cap (t : Nat) h, (∀ s ∈ l, s.length < 4611686018427387904) → l.length < 1000000 → 1 ≤ t → t ≤ 4096 → strE rows l t = 0 → M.ext 66 [.agg [.int .i64 rows, .vs (strs l) l.length cap], .int .i64 t] h = some ⟨.tup [.agg [.int .i64 rows, .sl h.length 0 (strL t l).length 1 none], .int .i64 0], h ++ [some (.cells (strs (strL t l)) 9)], []⟩
  c76 : ∀ r r' x y l m h, strsAt h x = some l → strsAt h y = some m → l.length < 4611686018427387904 → M.ext 76 [.agg [.int .i64 r, x], .agg [.int .i64 r', y]] h = some ⟨.bool (decide (r = r' ∧ l = m)), h, []⟩
  c77 : ∀ (s : Str) h, s.length < 1000000 → M.ext 77 [.str s] h = some ⟨.int .i64 (cntB 10 s), h, []⟩
def t14_1 : ICode :=
   (.seq (.region [⟨(.p 20), .mv (.c (.str [])), none⟩])
              (.seq (.seq (.region [⟨(.l 141), .faddr 1 (.p 2), none⟩,
                  ⟨(.l 142), .load 1 false (.l 141), none⟩,
                  ⟨(.p 24), .len .sl (.l 142), none⟩,
                  ⟨(.p 25), .mv (.c (.int .i64 (0))), none⟩])
                (.block 0
                 (.loop b14_0)))
               (.seq (.seq (.region [⟨(.l 157), .mv (.p 20), none⟩,
                   ⟨(.l 158), .len .str (.l 157), none⟩,
                   ⟨(.l 159), .bin .gtr (.l 158) (.c (.int .i64 (4096))), none⟩])
                 (.cond (.l 159)
                  (.seq (.region [⟨(.p 3), .mv (.c (.bool true)), none⟩])
                   (.ret))
                  (.skip)))
                (.seq (.region [⟨(.l 161), .mv (.p 20), none⟩,
                   ⟨(.l 162), .call (.c (.fn (.func 21) [] [])) [(.l 161)], none⟩,
                   ⟨(.l 160), .mv (.l 162), none⟩,
                   ⟨(.l 163), .extract 0 (.l 160), none⟩,
                   ⟨(.l 164), .extract 1 (.l 160), none⟩,
                   ⟨(.l 165), .extract 2 (.l 160), none⟩,
                   ⟨(.p 22), .alloc 24 [.int .i64 (0), .nilsl], none⟩,
                   ⟨.no, .store 2 (.p 22) (.l 163), none⟩,
                   ⟨(.l 24), .mv (.l 164), none⟩,
                   ⟨(.p 23), .mv (.l 165), none⟩])
                 (.seq (.region [⟨(.l 166), .mv (.p 23), none⟩,
                    ⟨(.l 167), .bin .eql (.l 166) (.c (.int .i64 (0))), none⟩,
                    ⟨(.l 168), .mv (.l 167), none⟩,
                    ⟨(.l 169), .load 2 true (.p 22), some ((.l 168), true)⟩,
                    ⟨(.l 170), .load 2 true (.p 4), some ((.l 168), true)⟩,
                    ⟨(.l 171), .call (.c (.fn (.func 76) [] [])) [(.l 169), (.l 170)], some ((.l 168), true)⟩,
                    ⟨(.l 172), .pick (.l 168) (.l 171) (.c (.bool false)), none⟩,
                    ⟨(.l 173), .mv (.l 172), none⟩,
                    ⟨(.l 174), .mv (.p 5), some ((.l 173), true)⟩,
                    ⟨(.l 175), .len .str (.l 174), some ((.l 173), true)⟩,
                    ⟨(.l 176), .mv (.p 20), some ((.l 173), true)⟩,
                    ⟨(.l 177), .len .str (.l 176), some ((.l 173), true)⟩,
                    ⟨(.l 178), .bin .leq (.l 175) (.l 177), some ((.l 173), true)⟩,
                    ⟨(.l 179), .pick (.l 173) (.l 178) (.c (.bool false)), none⟩,
                    ⟨(.p 3), .mv (.l 179), none⟩])
                  (.ret))))))
def t14_2 : ICode :=
   (.seq (.seq (.region [⟨(.l 100), .mv (.p 9), none⟩,
                ⟨(.l 101), .mv (.p 11), none⟩,
                ⟨(.l 102), .bin .add (.l 100) (.l 101), none⟩,
                ⟨(.l 103), .mv (.p 13), none⟩,
                ⟨(.l 104), .bin .add (.l 102) (.l 103), none⟩,
                ⟨(.l 105), .mv (.p 15), none⟩,
                ⟨(.l 106), .bin .add (.l 104) (.l 105), none⟩,
                ⟨(.l 107), .mv (.p 17), none⟩,
                ⟨(.l 108), .bin .add (.l 106) (.l 107), none⟩,
                ⟨(.l 109), .mv (.p 19), none⟩,
                ⟨(.l 110), .bin .add (.l 108) (.l 109), none⟩,
                ⟨(.l 111), .bin .neq (.l 110) (.c (.int .i64 (0))), none⟩,
                ⟨(.l 112), .mv (.l 111), none⟩,
                ⟨(.l 113), .mv (.p 8), some ((.l 112), false)⟩,
                ⟨(.l 114), .bin .neq (.l 113) (.c (.int .i64 (0))), some ((.l 112), false)⟩,
                ⟨(.l 115), .pick (.l 112) (.c (.bool true)) (.l 114), none⟩,
                ⟨(.l 116), .mv (.l 115), none⟩,
                ⟨(.l 117), .load 2 true (.p 7), some ((.l 116), false)⟩,
                ⟨(.l 118), .load 2 true (.p 4), some ((.l 116), false)⟩,
                ⟨(.l 119), .call (.c (.fn (.func 76) [] [])) [(.l 117), (.l 118)], some ((.l 116), false)⟩,
                ⟨(.l 120), .un .not (.l 119), some ((.l 116), false)⟩,
                ⟨(.l 121), .pick (.l 116) (.c (.bool true)) (.l 120), none⟩,
                ⟨(.l 122), .mv (.l 121), none⟩,
                ⟨(.l 123), .load 2 true (.p 12), some ((.l 122), false)⟩,
                ⟨(.l 124), .load 2 true (.p 4), some ((.l 122), false)⟩,
                ⟨(.l 125), .call (.c (.fn (.func 76) [] [])) [(.l 123), (.l 124)], some ((.l 122), false)⟩,
                ⟨(.l 126), .un .not (.l 125), some ((.l 122), false)⟩,
                ⟨(.l 127), .pick (.l 122) (.c (.bool true)) (.l 126), none⟩,
                ⟨(.l 128), .mv (.l 127), none⟩,
                ⟨(.l 129), .load 2 true (.p 14), some ((.l 128), false)⟩,
                ⟨(.l 130), .load 2 true (.p 4), some ((.l 128), false)⟩,
                ⟨(.l 131), .call (.c (.fn (.func 76) [] [])) [(.l 129), (.l 130)], some ((.l 128), false)⟩,
                ⟨(.l 132), .un .not (.l 131), some ((.l 128), false)⟩,
                ⟨(.l 133), .pick (.l 128) (.c (.bool true)) (.l 132), none⟩,
                ⟨(.l 134), .mv (.l 133), none⟩,
                ⟨(.l 135), .mv (.p 5), some ((.l 134), false)⟩,
                ⟨(.l 136), .call (.c (.fn (.func 77) [] [])) [(.l 135)], some ((.l 134), false)⟩,
                ⟨(.l 137), .mv (.p 18), some ((.l 134), false)⟩,
                ⟨(.l 138), .call (.c (.fn (.func 77) [] [])) [(.l 137)], some ((.l 134), false)⟩,
                ⟨(.l 139), .bin .neq (.l 136) (.l 138), some ((.l 134), false)⟩,
                ⟨(.l 140), .pick (.l 134) (.c (.bool true)) (.l 139), none⟩])
              (.cond (.l 140)
               (.seq (.region [⟨(.p 3), .mv (.c (.bool false)), none⟩])
                (.ret))
               (.skip)))
             t14_1)
def t14_3 : ICode :=
   (.seq (.region [⟨(.l 87), .load 2 true (.p 2), none⟩,
             ⟨(.l 88), .mv (.p 1), none⟩,
             ⟨(.l 89), .convInt .i64 (.l 88), none⟩,
             ⟨(.l 90), .bin .rem (.l 89) (.c (.int .i64 (9))), none⟩,
             ⟨(.l 91), .bin .add (.c (.int .i64 (1))) (.l 90), none⟩,
             ⟨(.l 92), .call (.c (.fn (.func 66) [] [])) [(.l 87), (.l 91)], none⟩,
             ⟨(.l 86), .mv (.l 92), none⟩,
             ⟨(.l 93), .extract 0 (.l 86), none⟩,
             ⟨(.l 94), .extract 1 (.l 86), none⟩,
             ⟨(.p 16), .alloc 24 [.int .i64 (0), .nilsl], none⟩,
             ⟨.no, .store 2 (.p 16) (.l 93), none⟩,
             ⟨(.p 17), .mv (.l 94), none⟩])
           (.seq (.region [⟨(.l 96), .load 2 true (.p 16), none⟩,
              ⟨(.l 97), .call (.c (.fn (.func 17) [] [])) [(.l 96)], none⟩,
              ⟨(.l 95), .mv (.l 97), none⟩,
              ⟨(.l 98), .extract 0 (.l 95), none⟩,
              ⟨(.l 99), .extract 1 (.l 95), none⟩,
              ⟨(.p 18), .mv (.l 98), none⟩,
              ⟨(.p 19), .mv (.l 99), none⟩])
            t14_2))
def t14_4 : ICode :=
   (.seq (.region [⟨(.l 82), .load 2 true (.p 2), none⟩,
            ⟨(.l 83), .call (.c (.fn (.func 66) [] [])) [(.l 82), (.c (.int .i64 (1)))], none⟩,
            ⟨(.l 81), .mv (.l 83), none⟩,
            ⟨(.l 84), .extract 0 (.l 81), none⟩,
            ⟨(.l 85), .extract 1 (.l 81), none⟩,
            ⟨(.p 14), .alloc 24 [.int .i64 (0), .nilsl], none⟩,
            ⟨.no, .store 2 (.p 14) (.l 84), none⟩,
            ⟨(.p 15), .mv (.l 85), none⟩])
          t14_3)
def t14_5 : ICode :=
   (.seq (.region [⟨(.l 77), .load 2 true (.p 10), none⟩,
           ⟨(.l 78), .call (.c (.fn (.func 71) [] [])) [(.l 77)], none⟩,
           ⟨(.l 76), .mv (.l 78), none⟩,
           ⟨(.l 79), .extract 0 (.l 76), none⟩,
           ⟨(.l 80), .extract 1 (.l 76), none⟩,
           ⟨(.p 12), .alloc 24 [.int .i64 (0), .nilsl], none⟩,
           ⟨.no, .store 2 (.p 12) (.l 79), none⟩,
           ⟨(.p 13), .mv (.l 80), none⟩])
         t14_4)
def t14_6 : ICode :=
   (.seq (.region [⟨(.l 72), .load 2 true (.p 2), none⟩,
          ⟨(.l 73), .call (.c (.fn (.func 71) [] [])) [(.l 72)], none⟩,
          ⟨(.l 71), .mv (.l 73), none⟩,
          ⟨(.l 74), .extract 0 (.l 71), none⟩,
          ⟨(.l 75), .extract 1 (.l 71), none⟩,
          ⟨(.p 10), .alloc 24 [.int .i64 (0), .nilsl], none⟩,
          ⟨.no, .store 2 (.p 10) (.l 74), none⟩,
          ⟨(.p 11), .mv (.l 75), none⟩])
        t14_5)
def t14_7 : ICode :=
   (.seq (.region [⟨(.l 66), .mv (.p 5), none⟩,
         ⟨(.l 67), .call (.c (.fn (.func 21) [] [])) [(.l 66)], none⟩,
         ⟨(.l 65), .mv (.l 67), none⟩,
         ⟨(.l 68), .extract 0 (.l 65), none⟩,
         ⟨(.l 69), .extract 1 (.l 65), none⟩,
         ⟨(.l 70), .extract 2 (.l 65), none⟩,
         ⟨(.p 7), .alloc 24 [.int .i64 (0), .nilsl], none⟩,
         ⟨.no, .store 2 (.p 7) (.l 68), none⟩,
         ⟨(.p 8), .mv (.l 69), none⟩,
         ⟨(.p 9), .mv (.l 70), none⟩])
       t14_6)
/-- An image in a variable's block. -/
def IV (rows : Int) (K : Heap) (b : Nat) (l : List Str) : Prop := ∃ c, K.at b = some (.cells [.int .i64 rows, .sl c 0 l.length 1 none] 24) ∧ K.at c = some (.cells (strs l) 9)
theorem IV.ext {rows : Int} {K K' : Heap} {b : Nat} {l : List Str} (h : IV rows K b l) (e : ∀ a x, K.at a = some x → K'.at a = some x) : IV rows K' b l := by
  obtain ⟨c, h1, h2⟩ := h
  exact ⟨c, e _ _ h1, e _ _ h2⟩
structure Base (rows : Int) (l : List Str) (K : Heap) : Prop where
  b0 : K.at 0 = some (.cells [.int .i64 rows, .vs (strs l) l.length none] 24)
  b1 : K.at 1 = some (.cells [.int .i64 rows, .vs (strs l) l.length none] 25)
theorem Base.ext {rows : Int} {l : List Str} {K K' : Heap} (h : Base rows l K) (e : ∀ a x, K.at a = some x → K'.at a = some x) : Base rows l K' := ⟨e _ _ h.b0, e _ _ h.b1⟩
/-- What the law's calls answer at one image. -/
structure Q14 (M : Mach) (rows : Int) (l : List Str) (t : Nat) (k : Int) : Prop where
  q21 : ∀ h, M.ext 21 [.str (packL l)] h = some ⟨.tup [.agg [.int .i64 rows, .sl h.length 0 l.length 1 none], .int .i64 0, .int .i64 0], h ++ [some (.cells (strs l) 9)], []⟩
  q71 : ∀ h, M.ext 71 [.agg [.int .i64 rows, .vs (strs l) l.length none]] h = some ⟨.tup [.agg [.int .i64 rows, .sl h.length 0 l.reverse.length 1 none], .int .i64 0], h ++ [some (.cells (strs l.reverse) 9)], []⟩
  q71' : ∀ v h, strsAt h v = some l.reverse → M.ext 71 [.agg [.int .i64 rows, v]] h = some ⟨.tup [.agg [.int .i64 rows, .sl h.length 0 l.length 1 none], .int .i64 0], h ++ [some (.cells (strs l) 9)], []⟩
  q66 : ∀ h, M.ext 66 [.agg [.int .i64 rows, .vs (strs l) l.length none], .int .i64 1] h = some ⟨.tup [.agg [.int .i64 rows, .sl h.length 0 l.length 1 none], .int .i64 0], h ++ [some (.cells (strs l) 9)], []⟩
  q66' : ∀ h, M.ext 66 [.agg [.int .i64 rows, .vs (strs l) l.length none], .int .i64 (1 + k % 9)] h = some ⟨.tup [.agg [.int .i64 rows, .sl h.length 0 (strL t l).length 1 none], .int .i64 0], h ++ [some (.cells (strs (strL t l)) 9)], []⟩
  q17' : ∀ v h, strsAt h v = some (strL t l) → M.ext 17 [.agg [.int .i64 rows, v]] h = some ⟨.tup [.str (packL (strL t l)), .int .i64 0], h, []⟩
  q76 : ∀ v w h, strsAt h v = some l → strsAt h w = some l → M.ext 76 [.agg [.int .i64 rows, v], .agg [.int .i64 rows, w]] h = some ⟨.bool true, h, []⟩
  q77 : ∀ h, M.ext 77 [.str (packL l)] h = some ⟨.int .i64 (runsOf l).length, h, []⟩
  q77' : ∀ h, M.ext 77 [.str (packL (strL t l))] h = some ⟨.int .i64 (runsOf l).length, h, []⟩
  q21o : ∀ h, M.ext 21 [.str (blkText (ones l))] h = some ⟨.tup [.agg [.int .i64 rows, .sl h.length 0 l.length 1 none], .int .i64 0, .int .i64 0], h ++ [some (.cells (strs l) 9)], []⟩
  lo : (blkText (ones l)).length ≤ 4096
  le : (packL l).length ≤ (blkText (ones l)).length
  ln : l.length ≤ 40
  lp : (packL l).length ≤ 4096
  hk : 0 ≤ k ∧ k < 256
variable {rows k : Int} {l : List Str} {t : Nat}
theorem strs_at1 {K : Heap} {c : Nat} {l : List Str} (h : K.at c = some (.cells (strs l) 9)) : strsAt K (.sl c 0 l.length 1 none) = some l := strs_at h rfl
theorem ones_snoc (l : List Str) (i : Nat) (h : i < l.length) : blkText (ones (l.take (i + 1))) = ((blkText (ones (l.take i)) ++ [49, 32]) ++ l[i]!) ++ [10] := by
  have app : ∀ a b : List (Nat × Str), blkText (a ++ b) = blkText a ++ blkText b := fun a => by
    induction a with
    | nil => intro b; rfl
    | cons p r ih => intro b; rw [List.cons_append, blkText, blkText, ih]; simp
  rw [List.take_add_one, List.getElem?_eq_getElem h, getElem!_pos l i h]
  show blkText ((l.take i ++ [l[i]]).map _) = _
  rw [List.map_append, app]
  have hd : decD 1 = [49] := rfl
  show blkText (ones (l.take i)) ++ (bodyOf (1, l[i]) ++ 10 :: []) = _
  simp [bodyOf, hd]
end Go.Ab.Ch5


/-
  Own work: the law FinishPacks, its walk part by part.
-/
namespace Go.Ab.Ch5
variable {M : Mach} {rows k : Int} {l : List Str} {t : Nat}

theorem WO.ldb {u n b off : Nat} {ag : Bool} {x : IOpd} {L : List IOper} {pe : List AV} {lo : List (Nat × AV)} {hp : Heap} {df wr : List Nat} {c : List AV} {e : TypeId} {v : AV} {Q : StW → Prop} (hx : (St.mk pe lo hp df).opd x = some (.ptr b off)) (hb : hp.at b = some (.cells c e)) (hv : partOf (c.drop off) 0 n ag = some v)
    (h : WO M L ⟨⟨pe, (u, v) :: lo, hp, df⟩, wr⟩ Q) : WO M (⟨.l u, .load n ag x, none⟩ :: L) ⟨⟨pe, lo, hp, df⟩, wr⟩ Q :=
  WO.hlv (v := v) (h' := hp) (w' := []) (by simp only [heapA, hx, Option.bind_some, readAt, hb, hv]) rfl rfl h
theorem WO.stn {n : Nat} {x y : IOpd} {L : List IOper} {pe : List AV} {lo : List (Nat × AV)} {K : Heap} {df wr : List Nat} {c c' : List AV} {e : TypeId} {new : List AV} {Q : StW → Prop} (hx : (St.mk pe lo (K ++ [some (.cells c e)]) df).opd x = some (.ptr K.length 0)) (hy : ((St.mk pe lo (K ++ [some (.cells c e)]) df).opd y).bind AV.cells = some new)
    (hn : new.length = n ∧ n ≤ c.length ∧ new.all oneA = true) (ho : overwrite c 0 new = c') (h : WO M L ⟨⟨pe, lo, K ++ [some (.cells c' e)], df⟩, K.length :: wr⟩ Q) : WO M (⟨.no, .store n x y, none⟩ :: L) ⟨⟨pe, lo, K ++ [some (.cells c e)], df⟩, wr⟩ Q := by
  obtain ⟨h1, h2, h3⟩ := hn
  refine WO.hnv (v := undefA) (h' := K ++ [some (.cells c' e)]) (w' := [K.length]) ?_ rfl rfl h
  simp only [heapA, hx, hy, at_new, Nat.zero_add]
  rw [if_pos ⟨h1, h2, h3⟩, ho]
  simp [Heap.put]
theorem loop14 {R : Nat} {K : Heap} (B : Base rows l K) (hR : ∀ x ∈ l, x.length = R) (hR' : R ≤ 64) (hl : l.length ≤ 40) (a0 a1 a3 a6 a7 a8 a9 a10 a11 a12 a13 a14 a15 a16 a17 a18 a19 a22 a23 : AV) {Q : Ex → StW → Prop} : ∀ (r i : Nat) (a21 : AV) (lo : List (Nat × AV)) (wr : List Nat), i + r = l.length →
    (∀ a21 lo, Q (.exit 0) ⟨⟨[a0, a1, .ptr 0 0, a3, .ptr 1 0, .str (packL l), a6, a7, a8, a9, a10, a11, a12, a13, a14, a15, a16, a17, a18, a19, .str (blkText (ones l)), a21, a22, a23, .int .i64 l.length, .int .i64 l.length], lo, K, []⟩, wr⟩) → W M (.loop b14_0) ⟨⟨[a0, a1, .ptr 0 0, a3, .ptr 1 0, .str (packL l), a6, a7, a8, a9, a10, a11, a12, a13, a14, a15, a16, a17, a18, a19, .str (blkText (ones (l.take i))), a21, a22, a23, .int .i64 l.length, .int .i64 i], lo, K, []⟩, wr⟩ Q := by
  intro r
  induction r with
  | zero =>
    intro i a21 lo wr hi hQ
    obtain rfl : i = l.length := by omega
    rw [List.take_length]
    refine W.loop ?_
    unfold b14_0
    repeat' first | apply W.seq | apply SQn | apply W.region | apply WO.nil | apply W.exit | apply SQe | apply LQe | (apply W.condF; exact rfl) | (apply WO.lss; exact rfl; exact rfl; all_goals first | (intro _; exfalso; omega) | intro _)
    exact hQ _ _
  | succ r ih =>
    intro i a21 lo wr hi hQ
    have hil : i < l.length := by omega
    have hlen := ones_len (rows := R) (l.take i) fun x hx => hR x (List.mem_of_mem_take hx)
    have hb : (l.take i).length * (R + 3) ≤ 40 * 67 := Nat.mul_le_mul (by rw [List.length_take]; omega) (by omega)
    have hx : (l[((i : Int)).toNat]!).length = R := by
      rw [Int.toNat_natCast, getElem!_pos l i hil]; exact hR _ (List.getElem_mem hil)
    refine W.loop ?_
    unfold b14_0
    have nx := fun a21 lo => ih (i + 1) a21 lo wr (by omega) hQ
    rw [ones_snoc l i hil] at nx
    repeat' first | apply W.seq | apply SQn | apply W.region | apply WO.nil | apply W.block | apply W.skip | apply BQn | (apply W.condT; exact rfl) | (apply WO.lss; exact rfl; exact rfl; all_goals first | (intro _; exfalso; omega) | intro _) | (apply WO.add; exact rfl; exact rfl; omega) | (apply WO.cat; exact rfl; exact rfl; first | omega | (simp only [List.length_append, List.length_cons, List.length_nil]; omega) | (simp; omega)) | (apply WO.ldb; exact rfl; (first | exact B.b0 | exact B.b1); exact rfl) | (apply WO.iav; exact rfl; exact rfl; omega) | (apply WO.lda; exact rfl; exact fun _ => rfl; (first | omega | (simp only [List.length_set]; omega) | (simp; omega)); decide; exact rfl; case ia => infer_instance) | (apply WO.pl; exact rfl; exact rfl) | (apply WO.pp; exact rfl; exact rfl)
    refine LQn ?_
    exact nx _ _
theorem q14_1 {R : Nat} {K : Heap} (q : Q14 M rows l t k) (B : Base rows l K) (hR : ∀ x ∈ l, x.length = R) (hR' : R ≤ 64) (a0 a1 a3 a6 a7 a8 a9 a10 a11 a12 a13 a14 a15 a16 a17 a18 a19 a20 a21 a22 a23 a24 a25 : AV) (lo : List (Nat × AV)) (wr : List Nat) :
    W M t14_1 ⟨⟨[a0, a1, .ptr 0 0, a3, .ptr 1 0, .str (packL l), a6, a7, a8, a9, a10, a11, a12, a13, a14, a15, a16, a17, a18, a19, a20, a21, a22, a23, a24, a25], lo, K, []⟩, wr⟩ Ends3 := by
  have hlo := q.lo
  have hle := q.le
  have hln := q.ln
  unfold t14_1
  repeat' first | apply W.seq | apply SQn | apply W.region | apply WO.nil | apply W.block | (apply WO.ldb; exact rfl; (first | exact B.b0 | exact B.b1); exact rfl) | (apply WO.pl; exact rfl; exact rfl) | (apply WO.pp; exact rfl; exact rfl)
  refine loop14 B hR hR' hln _ _ _ _ _ _ _ _ _ _ _ _ _ _ _ _ _ _ _ l.length 0 _ _ _ (by omega) (fun a21 lo => ?_)
  repeat' first | apply W.seq | apply SQn | apply W.region | apply WO.nil | apply W.ret | apply W.skip | apply BQe | (apply W.condF; exact rfl) | (apply WO.gT; exact rfl) | (apply WO.leq; exact rfl; exact rfl; all_goals first | (intro _; exfalso; omega) | intro _) | (apply WO.gtr; exact rfl; exact rfl; all_goals first | (intro _; exfalso; omega) | intro _) | (apply WO.eql; exact rfl; exact rfl; all_goals first | (intro _; exfalso; omega) | intro _) | (apply WO.pkT; exact rfl; exact rfl) | (apply WO.ldb; exact rfl; (first | exact B.b0 | exact B.b1 | exact at_new | exact at_old (at_old B.b1)); exact rfl) | (apply WO.stn; exact rfl; exact rfl; exact ⟨rfl, Nat.le_refl 2, rfl⟩; exact rfl) | (apply WO.cll; exact rfl; exact rfl; first | exact q.q21o _ | exact q.q76 _ _ _ (strs_at1 (at_old at_new)) strsAt_vs) | (apply WO.hpv; exact rfl; exact rfl; exact rfl) | (apply WO.pl; exact rfl; exact rfl) | (apply WO.pp; exact rfl; exact rfl)
  exact ends3 rfl rfl
theorem q14_2 {K : Heap} (q : Q14 M rows l t k) (B : Base rows l K) {x7 x12 x14 : Nat} (h7 : IV rows K x7 l) (h12 : IV rows K x12 l) (h14 : IV rows K x14 l) {R : Nat} (hR : ∀ x ∈ l, x.length = R) (hR' : R ≤ 64) (a0 a1 a3 a6 a10 a16 a20 a21 a22 a23 a24 a25 : AV) (lo : List (Nat × AV)) (wr : List Nat) :
    W M t14_2 ⟨⟨[a0, a1, .ptr 0 0, a3, .ptr 1 0, .str (packL l), a6, .ptr x7 0, .int .i64 0, .int .i64 0, a10, .int .i64 0, .ptr x12 0, .int .i64 0, .ptr x14 0, .int .i64 0, a16, .int .i64 0, .str (packL (strL t l)), .int .i64 0, a20, a21, a22, a23, a24, a25], lo, K, []⟩, wr⟩ Ends3 := by
  obtain ⟨c7, h7a, h7b⟩ := h7
  obtain ⟨c12, h12a, h12b⟩ := h12
  obtain ⟨c14, h14a, h14b⟩ := h14
  unfold t14_2
  repeat' first | (exact q14_1 q B hR hR' _ _ _ _ _ _ _ _ _ _ _ _ _ _ _ _ _ _ _ _ _ _ _ _ _) | apply W.seq | apply SQn | apply W.region | apply WO.nil | apply W.skip | (apply W.condF; exact rfl) | (apply WO.gF; exact rfl) | (apply WO.neq; exact rfl; exact rfl; all_goals first | (intro _; exfalso; omega) | intro _) | (apply WO.pkF; exact rfl; exact rfl) | (apply WO.add; exact rfl; exact rfl; omega) | (apply WO.ldb; exact rfl; (first | exact B.b0 | exact B.b1 | exact h7a | exact h12a | exact h14a); exact rfl) | (apply WO.cll; exact rfl; exact rfl; first | exact q.q77 _ | exact q.q77' _ | exact q.q76 _ _ _ (strs_at1 h7b) strsAt_vs | exact q.q76 _ _ _ (strs_at1 h12b) strsAt_vs | exact q.q76 _ _ _ (strs_at1 h14b) strsAt_vs) | (apply WO.pl; exact rfl; exact rfl)
theorem q14_3 {K : Heap} (q : Q14 M rows l t k) (B : Base rows l K) {x7 x12 x14 : Nat} (h7 : IV rows K x7 l) (h12 : IV rows K x12 l) (h14 : IV rows K x14 l) {R : Nat} (hR : ∀ x ∈ l, x.length = R) (hR' : R ≤ 64) (a0 a3 a6 a10 a16 a17 a18 a19 a20 a21 a22 a23 a24 a25 : AV) (lo : List (Nat × AV)) (wr : List Nat) :
    W M t14_3 ⟨⟨[a0, .int .u8 k, .ptr 0 0, a3, .ptr 1 0, .str (packL l), a6, .ptr x7 0, .int .i64 0, .int .i64 0, a10, .int .i64 0, .ptr x12 0, .int .i64 0, .ptr x14 0, .int .i64 0, a16, a17, a18, a19, a20, a21, a22, a23, a24, a25], lo, K, []⟩, wr⟩ Ends3 := by
  have hk := q.hk
  unfold t14_3
  repeat' first | (exact q14_2 q (B.ext (fun _ _ h => at_old (at_old h))) (h7.ext (fun _ _ h => at_old (at_old h))) (h12.ext (fun _ _ h => at_old (at_old h))) (h14.ext (fun _ _ h => at_old (at_old h))) hR hR' _ _ _ _ _ _ _ _ _ _ _ _ _ _) | apply W.seq | apply SQn | apply W.region | apply WO.nil | (apply WO.cvi; exact rfl; omega) | (apply WO.add; exact rfl; exact rfl; omega) | (apply WO.remp; exact rfl; exact rfl; omega; intro _ _) | (apply WO.ldb; exact rfl; (first | exact B.b0 | exact B.b1 | exact at_new); exact rfl) | (apply WO.stn; exact rfl; exact rfl; exact ⟨rfl, Nat.le_refl 2, rfl⟩; exact rfl) | (apply WO.cll; exact rfl; exact rfl; first | exact q.q66' _ | exact q.q17' _ _ (strs_at1 (at_old at_new))) | (apply WO.hpv; exact rfl; exact rfl; exact rfl) | (apply WO.pl; exact rfl; exact rfl) | (apply WO.pp; exact rfl; exact rfl)
theorem q14_4 {K : Heap} (q : Q14 M rows l t k) (B : Base rows l K) {x7 x12 : Nat} (h7 : IV rows K x7 l) (h12 : IV rows K x12 l) {R : Nat} (hR : ∀ x ∈ l, x.length = R) (hR' : R ≤ 64) (a0 a3 a6 a10 a14 a15 a16 a17 a18 a19 a20 a21 a22 a23 a24 a25 : AV) (lo : List (Nat × AV)) (wr : List Nat) :
    W M t14_4 ⟨⟨[a0, .int .u8 k, .ptr 0 0, a3, .ptr 1 0, .str (packL l), a6, .ptr x7 0, .int .i64 0, .int .i64 0, a10, .int .i64 0, .ptr x12 0, .int .i64 0, a14, a15, a16, a17, a18, a19, a20, a21, a22, a23, a24, a25], lo, K, []⟩, wr⟩ Ends3 := by
  unfold t14_4
  repeat' first | (exact q14_3 q (B.ext (fun _ _ h => at_old (at_old h))) (h7.ext (fun _ _ h => at_old (at_old h))) (h12.ext (fun _ _ h => at_old (at_old h))) ⟨_, at_new, at_old at_new⟩ hR hR' _ _ _ _ _ _ _ _ _ _ _ _ _ _ _ _) | apply W.seq | apply SQn | apply W.region | apply WO.nil | (apply WO.ldb; exact rfl; (first | exact B.b0 | exact B.b1); exact rfl) | (apply WO.stn; exact rfl; exact rfl; exact ⟨rfl, Nat.le_refl 2, rfl⟩; exact rfl) | (apply WO.cll; exact rfl; exact rfl; first | exact q.q66 _) | (apply WO.hpv; exact rfl; exact rfl; exact rfl) | (apply WO.pl; exact rfl; exact rfl) | (apply WO.pp; exact rfl; exact rfl)
theorem q14_5 {K : Heap} (q : Q14 M rows l t k) (B : Base rows l K) {x7 x10 : Nat} (h7 : IV rows K x7 l) (h10 : IV rows K x10 l.reverse) {R : Nat} (hR : ∀ x ∈ l, x.length = R) (hR' : R ≤ 64) (a0 a3 a6 a12 a13 a14 a15 a16 a17 a18 a19 a20 a21 a22 a23 a24 a25 : AV) (lo : List (Nat × AV)) (wr : List Nat) :
    W M t14_5 ⟨⟨[a0, .int .u8 k, .ptr 0 0, a3, .ptr 1 0, .str (packL l), a6, .ptr x7 0, .int .i64 0, .int .i64 0, .ptr x10 0, .int .i64 0, a12, a13, a14, a15, a16, a17, a18, a19, a20, a21, a22, a23, a24, a25], lo, K, []⟩, wr⟩ Ends3 := by
  obtain ⟨c10, h10a, h10b⟩ := h10
  unfold t14_5
  repeat' first | (exact q14_4 q (B.ext (fun _ _ h => at_old (at_old h))) (h7.ext (fun _ _ h => at_old (at_old h))) ⟨_, at_new, at_old at_new⟩ hR hR' _ _ _ _ _ _ _ _ _ _ _ _ _ _ _ _ _ _) | apply W.seq | apply SQn | apply W.region | apply WO.nil | (apply WO.ldb; exact rfl; (first | exact B.b0 | exact B.b1 | exact h10a); exact rfl) | (apply WO.stn; exact rfl; exact rfl; exact ⟨rfl, Nat.le_refl 2, rfl⟩; exact rfl) | (apply WO.cll; exact rfl; exact rfl; first | exact q.q71' _ _ (strs_at1 h10b)) | (apply WO.hpv; exact rfl; exact rfl; exact rfl) | (apply WO.pl; exact rfl; exact rfl) | (apply WO.pp; exact rfl; exact rfl)
theorem q14_6 {K : Heap} (q : Q14 M rows l t k) (B : Base rows l K) {x7 : Nat} (h7 : IV rows K x7 l) {R : Nat} (hR : ∀ x ∈ l, x.length = R) (hR' : R ≤ 64) (a0 a3 a6 a10 a11 a12 a13 a14 a15 a16 a17 a18 a19 a20 a21 a22 a23 a24 a25 : AV) (lo : List (Nat × AV)) (wr : List Nat) :
    W M t14_6 ⟨⟨[a0, .int .u8 k, .ptr 0 0, a3, .ptr 1 0, .str (packL l), a6, .ptr x7 0, .int .i64 0, .int .i64 0, a10, a11, a12, a13, a14, a15, a16, a17, a18, a19, a20, a21, a22, a23, a24, a25], lo, K, []⟩, wr⟩ Ends3 := by
  unfold t14_6
  repeat' first | (exact q14_5 q (B.ext (fun _ _ h => at_old (at_old h))) (h7.ext (fun _ _ h => at_old (at_old h))) ⟨_, at_new, at_old at_new⟩ hR hR' _ _ _ _ _ _ _ _ _ _ _ _ _ _ _ _ _ _ _) | apply W.seq | apply SQn | apply W.region | apply WO.nil | (apply WO.ldb; exact rfl; (first | exact B.b0 | exact B.b1); exact rfl) | (apply WO.stn; exact rfl; exact rfl; exact ⟨rfl, Nat.le_refl 2, rfl⟩; exact rfl) | (apply WO.cll; exact rfl; exact rfl; first | exact q.q71 _) | (apply WO.hpv; exact rfl; exact rfl; exact rfl) | (apply WO.pl; exact rfl; exact rfl) | (apply WO.pp; exact rfl; exact rfl)
theorem q14_7 {K : Heap} (q : Q14 M rows l t k) (B : Base rows l K) {R : Nat} (hR : ∀ x ∈ l, x.length = R) (hR' : R ≤ 64) (a0 a3 a6 a7 a8 a9 a10 a11 a12 a13 a14 a15 a16 a17 a18 a19 a20 a21 a22 a23 a24 a25 : AV) (lo : List (Nat × AV)) (wr : List Nat) :
    W M t14_7 ⟨⟨[a0, .int .u8 k, .ptr 0 0, a3, .ptr 1 0, .str (packL l), a6, a7, a8, a9, a10, a11, a12, a13, a14, a15, a16, a17, a18, a19, a20, a21, a22, a23, a24, a25], lo, K, []⟩, wr⟩ Ends3 := by
  unfold t14_7
  repeat' first | (exact q14_6 q (B.ext (fun _ _ h => at_old (at_old h))) ⟨_, at_new, at_old at_new⟩ hR hR' _ _ _ _ _ _ _ _ _ _ _ _ _ _ _ _ _ _ _ _ _) | apply W.seq | apply SQn | apply W.region | apply WO.nil | (apply WO.stn; exact rfl; exact rfl; exact ⟨rfl, Nat.le_refl 2, rfl⟩; exact rfl) | (apply WO.cll; exact rfl; exact rfl; first | exact q.q21 _) | (apply WO.hpv; exact rfl; exact rfl; exact rfl) | (apply WO.pl; exact rfl; exact rfl) | (apply WO.pp; exact rfl; exact rfl)
end Go.Ab.Ch5


/-
  Own work: the law FinishPacks answers true.
-/
namespace Go.Ab.Ch5
variable {M : Mach} {rows k : Int} {l : List Str}

theorem mkQ (C : Calls14 M) (hE : imgE rows l = 0) (hl : l.length ≤ 40) (hk : 0 ≤ k ∧ k < 256) : Q14 M rows l (1 + k % 9).toNat k := by
  obtain ⟨h1, h2⟩ := imgE_all hE
  have hL : ∀ s ∈ l, s.length < 4611686018427387904 := fun s hs => by have := (h2 s hs).1; omega
  have hr := runs_len l
  have P := pkF hE (by omega) (by omega)
  have P1 := P.len
  generalize ht : (1 + k % 9).toNat = t
  have ht1 : 1 ≤ t ∧ t ≤ 9 := by omega
  have et : ((t : Nat) : Int) = 1 + k % 9 := by omega
  have hlen : (strL t l).length ≤ 360 := by
    rw [strL_len]; have := Nat.mul_le_mul hl ht1.2; omega
  have hEt := imgE_strL (t := t) hE ht1.1 (by rw [← strL_len]; omega)
  have er : (runsOf (strL t l)).length = (runsOf l).length := by rw [runs_strL ht1.1, List.length_map]
  have Pt := pkF hEt (by omega) (by omega)
  have Pt1 := Pt.len
  obtain ⟨ou, ol⟩ := ones_un hE hl
  obtain ⟨R, hR⟩ : ∃ R : Nat, rows = R := ⟨rows.toNat, by omega⟩
  have hne := imgE_ne hE
  have ol := ol R hR
  have hb : l.length * (R + 3) ≤ 40 * 67 := Nat.mul_le_mul hl (by omega)
  have hLt : ∀ s ∈ strL t l, s.length < 4611686018427387904 := fun s hs => hL s (strL_mem hs)
  exact {
    q21 := fun h => by
      have := C.c21s (packL l) h (by omega) (by rw [P.un]; exact hne)
      rw [P.un] at this
      exact this
    q71 := fun h => C.c71 rows _ l h strsAt_vs hL (by omega) hE
    q71' := fun v h hv => by
      have := C.c71 rows v l.reverse h hv (fun s hs => hL s (List.mem_reverse.1 hs)) (by rw [List.length_reverse]; omega) (imgE_rev hE)
      rw [List.reverse_reverse] at this
      exact this
    q66 := fun h => by
      have := C.c66 rows l none 1 h hL (by omega) (by omega) (by omega) (strE_ok hE (by omega) (by omega))
      rw [strL_one] at this
      exact this
    q66' := fun h => by
      have := C.c66 rows l none t h hL (by omega) (by omega) (by omega) (strE_ok hE (by omega) (by rw [← strL_len]; omega))
      rw [et] at this
      exact this
    q17' := fun v h hv => by
      have := C.c17 rows v (strL t l) h hv hLt (by omega)
      rw [Pt.pack] at this
      exact this
    q76 := fun v w h hv hw => by
      have := C.c76 rows rows v w l l h hv hw (by omega)
      rw [decide_eq_true ⟨rfl, rfl⟩] at this
      exact this
    q77 := fun h => by
      have := C.c77 (packL l) h (by omega)
      rw [P.cnt] at this
      exact this
    q77' := fun h => by
      have := C.c77 (packL (strL t l)) h (by omega)
      rw [Pt.cnt, er] at this
      exact this
    q21o := fun h => by
      have := C.c21s (blkText (ones l)) h (by omega) (by rw [ou]; exact hne)
      rw [ou] at this
      exact this
    lo := by omega
    le := by rw [ol]; exact P.le R hR
    ln := hl
    lp := by omega
    hk := hk }
theorem w14 (hft : M.FT = FT) (C : Calls14 M) (hk : 0 ≤ k ∧ k < 256) : Run M 14 [.agg [.int .i64 rows, .vs (strs l) l.length none], .int .u8 k] [] ⟨.bool true, [], []⟩ := by
  have q16 := fun h => C.c16 rows l none h
  refine run_of_W (by rw [hft]; exact ft14) (by simp) ?_
  unfold b14
  simp only [List.map_cons, List.map_nil, List.getElem?_cons_zero, List.getElem?_cons_succ, List.getElem?_nil, Option.getD_some, Option.getD_none]
  cases hsh : shortB l
  · rw [hsh] at q16
    repeat' first | apply W.seq | apply SQn | apply W.region | apply WO.nil | apply W.ret | apply SQr | (apply W.condT; exact rfl) | (apply WO.gF; exact rfl) | (apply WO.sF; exact rfl) | (apply WO.pkT; exact rfl; exact rfl) | (apply WO.pkF; exact rfl; exact rfl) | (apply WO.cll; exact rfl; exact rfl; first | exact C.c15 _ | exact q16 _) | (apply WO.hlv; exact rfl; exact rfl; exact rfl) | (apply WO.hpv; exact rfl; exact rfl; exact rfl) | (apply WO.hnv; exact rfl; exact rfl; exact rfl) | (apply WO.pl; exact rfl; exact rfl) | (apply WO.pp; exact rfl; exact rfl)
    all_goals exact ends3 rfl rfl
  · rw [hsh] at q16
    obtain ⟨hl, hL⟩ := short_len hsh
    have q18 := fun h => C.c18 rows l none h hL hl
    by_cases hE : imgE rows l = 0
    · rw [hE] at q18
      by_cases h40 : l.length ≤ 40
      · have q := mkQ C hE h40 hk
        have P := pkF hE (by omega) (by have := runs_len l; omega)
        have q17 := fun h => C.c17 rows (.vs (strs l) l.length none) l h strsAt_vs hL (by omega)
        rw [P.pack] at q17
        simp only at q17
        obtain ⟨h1, h2⟩ := imgE_all hE
        obtain ⟨R, hR⟩ : ∃ R : Nat, rows = R := ⟨rows.toNat, by omega⟩
        have hR1 : ∀ x ∈ l, x.length = R := fun x hx => by have := (h2 x hx).1; omega
        have hR2 : R ≤ 64 := by omega
        repeat' first | (exact q14_7 q ⟨rfl, rfl⟩ hR1 hR2 _ _ _ _ _ _ _ _ _ _ _ _ _ _ _ _ _ _ _ _ _ _ _ _) | apply W.seq | apply SQn | apply W.region | apply WO.nil | apply W.skip | (apply W.condF; exact rfl) | (apply WO.gF; exact rfl) | (apply WO.gtr; exact rfl; exact rfl; all_goals first | (intro _; exfalso; omega) | intro _) | (apply WO.neq; exact rfl; exact rfl; all_goals first | (intro _; exfalso; omega) | intro _) | (apply WO.pkF; exact rfl; exact rfl) | (apply WO.cll; exact rfl; exact rfl; first | exact C.c15 _ | exact q16 _ | exact q18 _ | exact q17 _) | (apply WO.hlv; exact rfl; exact rfl; exact rfl) | (apply WO.hpv; exact rfl; exact rfl; exact rfl) | (apply WO.hnv; exact rfl; exact rfl; exact rfl) | (apply WO.pl; exact rfl; exact rfl) | (apply WO.pp; exact rfl; exact rfl)
      · repeat' first | apply W.seq | apply SQn | apply W.region | apply WO.nil | apply W.ret | apply SQr | (apply W.condT; exact rfl) | (apply WO.gF; exact rfl) | (apply WO.sF; exact rfl) | (apply WO.gtr; exact rfl; exact rfl; all_goals first | (intro _; exfalso; omega) | intro _) | (apply WO.pkT; exact rfl; exact rfl) | (apply WO.pkF; exact rfl; exact rfl) | (apply WO.cll; exact rfl; exact rfl; first | exact C.c15 _ | exact q16 _ | exact q18 _) | (apply WO.hlv; exact rfl; exact rfl; exact rfl) | (apply WO.hpv; exact rfl; exact rfl; exact rfl) | (apply WO.hnv; exact rfl; exact rfl; exact rfl) | (apply WO.pl; exact rfl; exact rfl) | (apply WO.pp; exact rfl; exact rfl)
        all_goals exact ends3 rfl rfl
    · generalize imgE rows l = E at *
      repeat' first | apply W.seq | apply SQn | apply W.region | apply WO.nil | apply W.ret | apply SQr | (apply W.condT; exact rfl) | (apply WO.gF; exact rfl) | (apply WO.sF; exact rfl) | (apply WO.gtr; exact rfl; exact rfl; all_goals first | (intro _; exfalso; omega) | intro _) | (apply WO.neq; exact rfl; exact rfl; all_goals first | (intro _; exfalso; omega) | intro _) | (apply WO.pkT; exact rfl; exact rfl) | (apply WO.pkF; exact rfl; exact rfl) | (apply WO.cll; exact rfl; exact rfl; first | exact C.c15 _ | exact q16 _ | exact q18 _) | (apply WO.hlv; exact rfl; exact rfl; exact rfl) | (apply WO.hpv; exact rfl; exact rfl; exact rfl) | (apply WO.hnv; exact rfl; exact rfl; exact rfl) | (apply WO.pl; exact rfl; exact rfl) | (apply WO.pp; exact rfl; exact rfl)
      all_goals exact ends3 rfl rfl
end Go.Ab.Ch5


/-
  Own work: the contracts of FinishPacks as a table.
-/
namespace Go.Ab.Ch5
open Go.Proofs

def fLines (s : Str) : AV := .int .i64 (cntB 10 s)
theorem lines77 : SpecOK Tryz.prog gl 77 (specS fLines 1000000) := specS_ok (T := []) tab_nil (fun _ => rfl) fun s hl => w77 mach_ft s hl
theorem imgAt_of {h : Heap} {rows : Int} {v : AV} {l : List Str} (hv : strsAt h v = some l) : imgAt h (.agg [.int .i64 rows, v]) = some (rows, l) := by
  simp only [imgAt, hv, Option.map_some]
def TPacks : List (Nat × Spec) := [(15, specAwake), (16, specShort), (17, specPack), (18, specImg fImgE), (21, specUn), (71, specMirrored), (66, specStretched), (76, specSameI), (77, specS fLines 1000000)]
theorem TPacks_ok : ExtOK Tryz.prog gl (extS TPacks) := tab_cons awake15 (tab_cons short16 (tab_cons pack17 (tab_cons check18 (tab_cons unpack21 (tab_cons mirrored71 (tab_cons stretched66 (tab_cons same76 (tab_cons lines77 tab_nil))))))))
theorem calls14 : Calls14 (mach Tryz.prog FT TPacks) where
  c15 _ := by rw [mach_ext]; rfl
  c16 rows l cap h := by
    rw [mach_ext]
    show specShort [.agg [.int .i64 rows, .vs (strs l) l.length cap]] h = _
    simp only [specShort, imgAt_vs]
  c17 rows v l h hv hL hS := by
    rw [mach_ext]
    show specPack [.agg [.int .i64 rows, v]] h = _
    simp only [specPack, imgAt_of hv]
    rw [if_pos ⟨shortL_of hL, by omega, fun _ => hS⟩]
  c18 rows l cap h hL hl := by rw [mach_ext]; exact specImg_vs hL hl
  c21s s h hl he := by rw [mach_ext]; exact un_s hl he
  c71 rows v l h hv hL hl hE := by
    rw [mach_ext]
    show specMirrored [.agg [.int .i64 rows, v]] h = _
    simp only [specMirrored, imgAt_of hv]
    rw [if_pos ⟨shortL_of hL, hl⟩, if_neg (fun h => h hE)]
  c66 rows l cap t h hL hl h1 ht hE := by
    rw [mach_ext]
    show specStretched [.agg [.int .i64 rows, .vs (strs l) l.length cap], .int .i64 t] h = _
    simp only [specStretched, imgAt_vs]
    rw [if_pos ⟨shortL_of hL, hl⟩, if_neg (fun h => h hE), if_pos (by omega), Int.toNat_natCast]
  c76 r r' x y l m h hx hy hl := by
    rw [mach_ext]
    show specSameI [.agg [.int .i64 r, x], .agg [.int .i64 r', y]] h = _
    simp only [specSameI, hx, hy, if_pos hl]
  c77 s h hl := by rw [mach_ext]; exact specS_eq (f := fLines) h hl
end Go.Ab.Ch5

