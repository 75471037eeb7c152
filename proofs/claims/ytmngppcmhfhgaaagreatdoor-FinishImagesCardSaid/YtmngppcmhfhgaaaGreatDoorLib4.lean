/-
  Own work: images: the torsos.
-/
import Derived.Test.YtmngppcmhfhgaaaGreatDoorLib3
import Derived.Test.YtmngppcmhfhgaaaGreatDoorLib2
namespace Go.Ab.Ch5
variable {M : Mach} {cap : Option Nat}

/-! Rules. -/
theorem WO.iaa {t esz n0 : Nat} {x i : IOpd} {l : List IOper} {pe : List AV} {lo : List (Nat × AV)} {hp : Heap} {df wr : List Nat} {b o : Nat} {k : IntKind} {n : Int} {Q : StW → Prop} (hx : (St.mk pe lo hp df).opd x = some (.ptr b o)) (hy : (St.mk pe lo hp df).opd i = some (.int k n)) (hb : 0 ≤ n ∧ n < n0)
    (h : WO M l ⟨⟨pe, (t, .ptr b (o + n.toNat * esz)) :: lo, hp, df⟩, wr⟩ Q) : WO M (⟨.l t, .iaddr (some n0) esz x i, none⟩ :: l) ⟨⟨pe, lo, hp, df⟩, wr⟩ Q :=
  WO.pl (v := .ptr b (o + n.toNat * esz)) (by simp [pureA, hx, hy, iaddrA, hb]) rfl h
theorem WO.sub8 {t : Nat} {x y : IOpd} {l : List IOper} {pe : List AV} {lo : List (Nat × AV)} {hp : Heap} {df wr : List Nat} {a b : Int} {Q : StW → Prop} (hx : (St.mk pe lo hp df).opd x = some (.int .u8 a)) (hy : (St.mk pe lo hp df).opd y = some (.int .u8 b)) (hr : 0 ≤ a - b ∧ a - b < 256)
    (h : WO M l ⟨⟨pe, (t, .int .u8 (a - b)) :: lo, hp, df⟩, wr⟩ Q) : WO M (⟨.l t, .bin .sub x y, none⟩ :: l) ⟨⟨pe, lo, hp, df⟩, wr⟩ Q :=
  WO.pl (v := .int .u8 (a - b)) (by
    have : IntKind.u8.wrap (a - b) = a - b := by simp only [IntKind.wrap, IntKind.bits, IntKind.signed]; simp; omega
    simp only [pureA, hx, hy, binA, if_true, this]) rfl h
theorem i32_wrap {n : Int} (h : -2147483648 ≤ n ∧ n < 2147483648) : IntKind.i32.wrap n = n := by
  simp only [IntKind.wrap, IntKind.bits, IntKind.signed]
  simp
  omega
theorem WO.add32 {t : Nat} {x y : IOpd} {l : List IOper} {pe : List AV} {lo : List (Nat × AV)} {hp : Heap} {df wr : List Nat} {a b : Int} {Q : StW → Prop} (hx : (St.mk pe lo hp df).opd x = some (.int .i32 a)) (hy : (St.mk pe lo hp df).opd y = some (.int .i32 b)) (hr : -2147483648 ≤ a + b ∧ a + b < 2147483648)
    (h : WO M l ⟨⟨pe, (t, .int .i32 (a + b)) :: lo, hp, df⟩, wr⟩ Q) : WO M (⟨.l t, .bin .add x y, none⟩ :: l) ⟨⟨pe, lo, hp, df⟩, wr⟩ Q :=
  WO.pl (v := .int .i32 (a + b)) (by simp only [pureA, hx, hy, binA, if_true, i32_wrap hr]) rfl h
theorem WO.cv32 {t : Nat} {x : IOpd} {l : List IOper} {pe : List AV} {lo : List (Nat × AV)} {hp : Heap} {df wr : List Nat} {k : IntKind} {a : Int} {Q : StW → Prop} (hx : (St.mk pe lo hp df).opd x = some (.int k a)) (hr : -2147483648 ≤ a ∧ a < 2147483648)
    (h : WO M l ⟨⟨pe, (t, .int .i32 a) :: lo, hp, df⟩, wr⟩ Q) : WO M (⟨.l t, .convInt .i32 x, none⟩ :: l) ⟨⟨pe, lo, hp, df⟩, wr⟩ Q :=
  WO.pl (v := .int .i32 a) (by simp only [pureA, hx, Option.bind_some, convA, i32_wrap hr]) rfl h
theorem WO.cvr {t : Nat} {x : IOpd} {l : List IOper} {pe : List AV} {lo : List (Nat × AV)} {hp : Heap} {df wr : List Nat} {k : IntKind} {a : Int} {Q : StW → Prop} (hx : (St.mk pe lo hp df).opd x = some (.int k a)) (hr : 0 ≤ a ∧ a < 128)
    (h : WO M l ⟨⟨pe, (t, .str [UInt8.ofNat a.toNat]) :: lo, hp, df⟩, wr⟩ Q) : WO M (⟨.l t, .convRune x, none⟩ :: l) ⟨⟨pe, lo, hp, df⟩, wr⟩ Q :=
  WO.pl (v := .str [UInt8.ofNat a.toNat]) (by
    have hv : Utf8.valid a = true := by simp [Utf8.valid]; omega
    have e : (Utf8.encode a).data.toList = [UInt8.ofNat a.toNat] := by
      unfold Utf8.encode
      simp only [hv, if_true]
      rw [if_pos (by omega)]
    simp only [pureA, hx, e]) rfl h
theorem WO.bxp {i n : Nat} {elem : TypeId} {x : IOpd} {l : List IOper} {pe : List AV} {lo : List (Nat × AV)} {hp : Heap} {df wr : List Nat} {c : List AV} {Q : StW → Prop} (hx : ((St.mk pe lo hp df).opd x).bind AV.cells = some c) (hn : c.length = n)
    (h : WO M l ⟨⟨pe.set i (.ptr hp.length 0), lo, hp ++ [some (.cells c elem)], df⟩, wr⟩ Q) : WO M (⟨.p i, .box elem n x, none⟩ :: l) ⟨⟨pe, lo, hp, df⟩, wr⟩ Q :=
  WO.hpv (v := .ptr hp.length 0) (h' := hp ++ [some (.cells c elem)]) (w' := []) (by simp only [heapA, hx, if_pos hn]) rfl rfl h
theorem ints_len (l : List Int) : (ints l).length = l.length := (arr_length (f := fun x : Int => [AV.int .i64 x]) (esz := 1) (fun _ => rfl) l).trans (Nat.mul_one _)
theorem ints_get (l : List Int) (i : Nat) (h : i < l.length) : (ints l)[i]? = some (.int .i64 l[i]!) := by
  have e1 : ints l = l.map fun x => AV.int .i64 x := by
    simp only [ints, arr]
    clear h
    induction l with
    | nil => rfl
    | cons y l ih => simp only [List.flatMap_cons, List.map_cons, ih]; rfl
  rw [e1, List.getElem?_map, List.getElem?_eq_getElem h, getElem!_pos l i h]
  rfl
theorem WO.ixa {t n0 : Nat} {x i : IOpd} {l : List IOper} {pe : List AV} {lo : List (Nat × AV)} {hp : Heap} {df wr : List Nat} {A : List Int} {k : IntKind} {n : Int} {Q : StW → Prop} (hx : (St.mk pe lo hp df).opd x = some (.agg (ints A))) (hy : (St.mk pe lo hp df).opd i = some (.int k n)) (hb : 0 ≤ n ∧ n < n0) (hA : A.length = n0)
    (h : WO M l ⟨⟨pe, (t, .int .i64 A[n.toNat]!) :: lo, hp, df⟩, wr⟩ Q) : WO M (⟨.l t, .indexArr n0 1 false x i, none⟩ :: l) ⟨⟨pe, lo, hp, df⟩, wr⟩ Q :=
  WO.pl (v := .int .i64 A[n.toNat]!) (by simp only [pureA, hx, hy, if_pos hb, partOf, Nat.mul_one, Bool.false_eq_true, if_false]; exact ints_get A _ (by omega)) rfl h
theorem part_all {A : List Int} {n : Nat} (hA : A.length = n) : partOf ((ints A).drop 0) 0 n true = some (.agg (ints A)) := by
  have h := ints_len A
  simp [partOf, cut, ← hA, ← h]

/-! torsos. -/
def stepB (i : Nat) (A : List Int) (b : UInt8) : List Int := if (65 ≤ b.toNat ∧ b.toNat ≤ 90) ∧ A[b.toNat - 65]! = 0 then A.set (b.toNat - 65) ((i : Int) + 1) else A
def imgA : List Str → Nat → List Int → List Int
  | [], _, A => A
  | s :: l, i, A => imgA l (i + 1) (s.foldl (stepB i) A)
theorem stepB_len (i : Nat) (A : List Int) (b : UInt8) : (stepB i A b).length = A.length := by
  unfold stepB; split <;> simp
theorem foldB_len (i : Nat) : ∀ (s : Str) (A : List Int), (s.foldl (stepB i) A).length = A.length
  | [], A => rfl
  | b :: s, A => by rw [List.foldl_cons, foldB_len i s, stepB_len]
theorem imgA_len : ∀ (l : List Str) (i : Nat) (A : List Int), (imgA l i A).length = A.length
  | [], _, _ => rfl
  | s :: l, i, A => by rw [imgA, imgA_len l, foldB_len]
theorem foldB_drop {i k : Nat} {s : Str} {A : List Int} (h : k < s.length) : (s.drop k).foldl (stepB i) A = (s.drop (k + 1)).foldl (stepB i) (stepB i A s[k]!) := by
  rw [List.drop_eq_getElem_cons h, getElem!_pos s k h, List.foldl_cons]
theorem imgA_drop {l : List Str} {i : Nat} {A : List Int} (h : i < l.length) : imgA (l.drop i) i A = imgA (l.drop (i + 1)) (i + 1) ((l[i]!).foldl (stepB i) A) := by
  rw [List.drop_eq_getElem_cons h, getElem!_pos l i h, imgA]

theorem loop115_0 (img : List AV) (Z : List AV) (a0 a8 a9 a10 : AV) (s : Str) (i : Nat) (hs : s.length < 4611686018427387904) (hi : i < 1000000) {Q : Ex → StW → Prop} : ∀ (r k : Nat) (A : List Int) (a6 a7 : AV) (lo : List (Nat × AV)) (wr : List Nat), k + r = s.length → A.length = 26 →
    (∀ a6 a7 lo wr, Q (.exit 2) ⟨⟨[a0, .ptr 0 0, .ptr 1 0, .ptr 2 0, .int .i64 i, .str s, a6, a7, a8, a9, a10, .int .i64 s.length, .int .i64 s.length], lo, [some (.cells img 24), some (.cells Z 189), some (.cells (ints ((s.drop k).foldl (stepB i) A)) 189)], []⟩, wr⟩) →
    W M (.loop b115_0) ⟨⟨[a0, .ptr 0 0, .ptr 1 0, .ptr 2 0, .int .i64 i, .str s, a6, a7, a8, a9, a10, .int .i64 s.length, .int .i64 k], lo, [some (.cells img 24), some (.cells Z 189), some (.cells (ints A) 189)], []⟩, wr⟩ Q
  | 0, k, A, a6, a7, lo, wr, hk, hA, h1 => by
    obtain rfl : k = s.length := by omega
    refine W.loop ?_
    unfold b115_0
    repeat' first | apply W.seq | apply SQn | apply W.region | apply WO.nil | apply W.block | apply W.ret | apply W.exit | apply W.skip | apply SQr | apply SQe | apply BQn | apply BQr | apply BQe | (apply BQo; exact rfl) | apply LQe | apply LQr | (apply W.condT; exact rfl) | (apply W.condF; exact rfl) | (apply W.cond; exact rfl; all_goals intro _) | (apply WO.gT; exact rfl) | (apply WO.gF; exact rfl) | (apply WO.sT; exact rfl) | (apply WO.sF; exact rfl) | (apply WO.sU; exact rfl) | (apply WO.lss; exact rfl; exact rfl; all_goals first | (intro _; exfalso; omega) | intro _) | (apply WO.leq; exact rfl; exact rfl; all_goals first | (intro _; exfalso; omega) | intro _) | (apply WO.geq; exact rfl; exact rfl; all_goals first | (intro _; exfalso; omega) | intro _) | (apply WO.eql; exact rfl; exact rfl; all_goals first | (intro _; exfalso; omega) | intro _) | (apply WO.pkT; exact rfl; exact rfl) | (apply WO.pkF; exact rfl; exact rfl) | (apply WO.add; exact rfl; exact rfl; omega) | (apply WO.sub; exact rfl; exact rfl; omega) | (apply WO.iav; exact rfl; exact rfl; omega) | (apply WO.ias; exact rfl; exact rfl; omega) | (apply WO.idx; exact rfl; exact rfl; omega) | (apply WO.lda; exact rfl; exact fun _ => rfl; (first | omega | (simp only [List.length_set]; omega) | (simp; omega)); decide; exact rfl; case ia => infer_instance) | (apply WO.lsa; exact rfl; (first | exact rfl | assumption | exact at_new | (apply at_old; assumption) | (apply at_put; first | assumption | (simp only [put_length]; assumption))); exact fun _ => rfl; (first | omega | (simp only [List.length_set]; omega) | (simp; omega)); decide; exact rfl; case ia => infer_instance) | (apply WO.sta; exact rfl; exact rfl; (first | exact rfl | assumption | exact at_new | (apply at_old; assumption) | (apply at_put; first | assumption | (simp only [put_length]; assumption))); exact fun _ => rfl; (first | omega | (simp only [List.length_set]; omega) | (simp; omega)); exact ⟨rfl, by decide, rfl⟩; exact rfl; case ia => infer_instance) | (apply WO.seql; exact rfl; exact rfl; all_goals first | (intro h; exact absurd h (by decide)) | (intro h; exact absurd rfl h) | (intro h; contradiction) | intro _) | (apply WO.hlv; exact rfl; exact rfl; exact rfl) | (apply WO.hpv; exact rfl; exact rfl; exact rfl) | (apply WO.hnv; exact rfl; exact rfl; exact rfl) | (apply WO.pl; exact rfl; exact rfl) | (apply WO.pp; exact rfl; exact rfl)
    rw [List.drop_length] at h1
    exact h1 _ _ _ _
  | r + 1, k, A, a6, a7, lo, wr, hk, hA, h1 => by
    have e := foldB_drop (i := i) (A := A) (s := s) (k := (k : Int).toNat) (by omega)
    have hb := (s[((k : Int)).toNat]!).toNat_lt
    refine W.loop ?_
    by_cases hc : 65 ≤ (s[((k : Int)).toNat]!).toNat ∧ (s[((k : Int)).toNat]!).toNat ≤ 90
    · have ei : (((s[((k : Int)).toNat]!).toNat : Int) - 65).toNat = (s[((k : Int)).toNat]!).toNat - 65 := by omega
      unfold b115_0
      repeat' first | (apply WO.sub8; exact rfl; exact rfl; omega) | (apply WO.iaa; exact rfl; exact rfl; omega) | apply W.seq | apply SQn | apply W.region | apply WO.nil | apply W.block | apply W.ret | apply W.exit | apply W.skip | apply SQr | apply SQe | apply BQn | apply BQr | apply BQe | (apply BQo; exact rfl) | apply LQe | apply LQr | (apply W.condT; exact rfl) | (apply W.condF; exact rfl) | (apply W.cond; exact rfl; all_goals intro _) | (apply WO.gT; exact rfl) | (apply WO.gF; exact rfl) | (apply WO.sT; exact rfl) | (apply WO.sF; exact rfl) | (apply WO.sU; exact rfl) | (apply WO.lss; exact rfl; exact rfl; all_goals first | (intro _; exfalso; omega) | intro _) | (apply WO.leq; exact rfl; exact rfl; all_goals first | (intro _; exfalso; omega) | intro _) | (apply WO.geq; exact rfl; exact rfl; all_goals first | (intro _; exfalso; omega) | intro _) | (apply WO.eql; exact rfl; exact rfl; all_goals first | (intro _; exfalso; omega) | intro _) | (apply WO.pkT; exact rfl; exact rfl) | (apply WO.pkF; exact rfl; exact rfl) | (apply WO.add; exact rfl; exact rfl; omega) | (apply WO.sub; exact rfl; exact rfl; omega) | (apply WO.iav; exact rfl; exact rfl; omega) | (apply WO.ias; exact rfl; exact rfl; omega) | (apply WO.idx; exact rfl; exact rfl; omega) | (apply WO.lda; exact rfl; exact fun _ => rfl; (first | omega | (simp only [List.length_set]; omega) | (simp; omega)); decide; exact rfl; case ia => infer_instance) | (apply WO.lsa; exact rfl; (first | exact rfl | assumption | exact at_new | (apply at_old; assumption) | (apply at_put; first | assumption | (simp only [put_length]; assumption))); exact fun _ => rfl; (first | omega | (simp only [List.length_set]; omega) | (simp; omega)); decide; exact rfl; case ia => infer_instance) | (apply WO.sta; exact rfl; exact rfl; (first | exact rfl | assumption | exact at_new | (apply at_old; assumption) | (apply at_put; first | assumption | (simp only [put_length]; assumption))); exact fun _ => rfl; (first | omega | (simp only [List.length_set]; omega) | (simp; omega)); exact ⟨rfl, by decide, rfl⟩; exact rfl; case ia => infer_instance) | (apply WO.seql; exact rfl; exact rfl; all_goals first | (intro h; exact absurd h (by decide)) | (intro h; exact absurd rfl h) | (intro h; contradiction) | intro _) | (apply WO.hlv; exact rfl; exact rfl; exact rfl) | (apply WO.hpv; exact rfl; exact rfl; exact rfl) | (apply WO.hnv; exact rfl; exact rfl; exact rfl) | (apply WO.pl; exact rfl; exact rfl) | (apply WO.pp; exact rfl; exact rfl)
      · rename_i hz
        rw [ei] at hz ⊢
        rw [stepB, if_pos ⟨hc, hz⟩, Int.toNat_natCast (n := k)] at e
        rw [Int.toNat_natCast (n := k)] at *
        rw [e] at h1
        exact LQn (loop115_0 img Z a0 a8 a9 a10 s i hs hi r (k + 1) _ _ _ _ _ (by omega) (by rw [List.length_set]; exact hA) h1)
      · rename_i hz
        rw [ei] at hz
        rw [stepB, if_neg (fun h => hz h.2), Int.toNat_natCast (n := k)] at e
        rw [e] at h1
        exact LQn (loop115_0 img Z a0 a8 a9 a10 s i hs hi r (k + 1) _ _ _ _ _ (by omega) hA h1)
    · rw [stepB, if_neg (fun h => hc h.1), Int.toNat_natCast (n := k)] at e
      rw [e] at h1
      unfold b115_0
      repeat' first | apply W.seq | apply SQn | apply W.region | apply WO.nil | apply W.block | apply W.ret | apply W.exit | apply W.skip | apply SQr | apply SQe | apply BQn | apply BQr | apply BQe | (apply BQo; exact rfl) | apply LQe | apply LQr | (apply W.condT; exact rfl) | (apply W.condF; exact rfl) | (apply W.cond; exact rfl; all_goals intro _) | (apply WO.gT; exact rfl) | (apply WO.gF; exact rfl) | (apply WO.sT; exact rfl) | (apply WO.sF; exact rfl) | (apply WO.sU; exact rfl) | (apply WO.lss; exact rfl; exact rfl; all_goals first | (intro _; exfalso; omega) | intro _) | (apply WO.leq; exact rfl; exact rfl; all_goals first | (intro _; exfalso; omega) | intro _) | (apply WO.geq; exact rfl; exact rfl; all_goals first | (intro _; exfalso; omega) | intro _) | (apply WO.eql; exact rfl; exact rfl; all_goals first | (intro _; exfalso; omega) | intro _) | (apply WO.pkT; exact rfl; exact rfl) | (apply WO.pkF; exact rfl; exact rfl) | (apply WO.add; exact rfl; exact rfl; omega) | (apply WO.sub; exact rfl; exact rfl; omega) | (apply WO.iav; exact rfl; exact rfl; omega) | (apply WO.ias; exact rfl; exact rfl; omega) | (apply WO.idx; exact rfl; exact rfl; omega) | (apply WO.lda; exact rfl; exact fun _ => rfl; (first | omega | (simp only [List.length_set]; omega) | (simp; omega)); decide; exact rfl; case ia => infer_instance) | (apply WO.lsa; exact rfl; (first | exact rfl | assumption | exact at_new | (apply at_old; assumption) | (apply at_put; first | assumption | (simp only [put_length]; assumption))); exact fun _ => rfl; (first | omega | (simp only [List.length_set]; omega) | (simp; omega)); decide; exact rfl; case ia => infer_instance) | (apply WO.sta; exact rfl; exact rfl; (first | exact rfl | assumption | exact at_new | (apply at_old; assumption) | (apply at_put; first | assumption | (simp only [put_length]; assumption))); exact fun _ => rfl; (first | omega | (simp only [List.length_set]; omega) | (simp; omega)); exact ⟨rfl, by decide, rfl⟩; exact rfl; case ia => infer_instance) | (apply WO.seql; exact rfl; exact rfl; all_goals first | (intro h; exact absurd h (by decide)) | (intro h; exact absurd rfl h) | (intro h; contradiction) | intro _) | (apply WO.hlv; exact rfl; exact rfl; exact rfl) | (apply WO.hpv; exact rfl; exact rfl; exact rfl) | (apply WO.hnv; exact rfl; exact rfl; exact rfl) | (apply WO.pl; exact rfl; exact rfl) | (apply WO.pp; exact rfl; exact rfl)
      all_goals exact LQn (loop115_0 img Z a0 a8 a9 a10 s i hs hi r (k + 1) _ _ _ _ _ (by omega) hA h1)
theorem loop115_1 (rows : Int) (l : List Str) (hL : ∀ s ∈ l, s.length < 4611686018427387904) (hl : l.length < 1000000) (Z : List AV) (a0 : AV) {Q : Ex → StW → Prop} : ∀ (r i : Nat) (A : List Int) (a4 a5 a6 a7 a11 a12 : AV) (lo : List (Nat × AV)) (wr : List Nat), i + r = l.length → A.length = 26 →
    (∀ a4 a5 a6 a7 a11 a12 lo wr, Q (.exit 0) ⟨⟨[a0, .ptr 0 0, .ptr 1 0, .ptr 2 0, a4, a5, a6, a7, .vs (strs l) l.length cap, .int .i64 l.length, .int .i64 l.length, a11, a12], lo, [some (.cells [.int .i64 rows, .vs (strs l) l.length cap] 24), some (.cells Z 189), some (.cells (ints (imgA (l.drop i) i A)) 189)], []⟩, wr⟩) →
    W M (.loop b115_1) ⟨⟨[a0, .ptr 0 0, .ptr 1 0, .ptr 2 0, a4, a5, a6, a7, .vs (strs l) l.length cap, .int .i64 l.length, .int .i64 i, a11, a12], lo, [some (.cells [.int .i64 rows, .vs (strs l) l.length cap] 24), some (.cells Z 189), some (.cells (ints A) 189)], []⟩, wr⟩ Q
  | 0, i, A, a4, a5, a6, a7, a11, a12, lo, wr, hi, hA, h1 => by
    obtain rfl : i = l.length := by omega
    refine W.loop ?_
    unfold b115_1
    repeat' first | apply W.seq | apply SQn | apply W.region | apply WO.nil | apply W.block | apply W.ret | apply W.exit | apply W.skip | apply SQr | apply SQe | apply BQn | apply BQr | apply BQe | (apply BQo; exact rfl) | apply LQe | apply LQr | (apply W.condT; exact rfl) | (apply W.condF; exact rfl) | (apply W.cond; exact rfl; all_goals intro _) | (apply WO.lss; exact rfl; exact rfl; all_goals first | (intro _; exfalso; omega) | intro _) | (apply WO.add; exact rfl; exact rfl; omega) | (apply WO.iav; exact rfl; exact rfl; omega) | (apply WO.ias; exact rfl; exact rfl; omega) | (apply WO.lda; exact rfl; exact fun _ => rfl; (first | omega | (simp only [List.length_set]; omega) | (simp; omega)); decide; exact rfl; case ia => infer_instance) | (apply WO.lsa; exact rfl; (first | exact rfl | assumption | exact at_new | (apply at_old; assumption) | (apply at_put; first | assumption | (simp only [put_length]; assumption))); exact fun _ => rfl; (first | omega | (simp only [List.length_set]; omega) | (simp; omega)); decide; exact rfl; case ia => infer_instance) | (apply WO.hlv; exact rfl; exact rfl; exact rfl) | (apply WO.hpv; exact rfl; exact rfl; exact rfl) | (apply WO.hnv; exact rfl; exact rfl; exact rfl) | (apply WO.pl; exact rfl; exact rfl) | (apply WO.pp; exact rfl; exact rfl)
    rw [List.drop_length] at h1
    exact h1 _ _ _ _ _ _ _ _
  | r + 1, i, A, a4, a5, a6, a7, a11, a12, lo, wr, hi, hA, h1 => by
    have e := imgA_drop (A := A) (l := l) (i := (i : Int).toNat) (by omega)
    refine W.loop ?_
    unfold b115_1
    repeat' first | apply W.seq | apply SQn | apply W.region | apply WO.nil | apply W.block | apply W.ret | apply W.exit | apply W.skip | apply SQr | apply SQe | apply BQn | apply BQr | apply BQe | (apply BQo; exact rfl) | apply LQe | apply LQr | (apply W.condT; exact rfl) | (apply W.condF; exact rfl) | (apply W.cond; exact rfl; all_goals intro _) | (apply WO.lss; exact rfl; exact rfl; all_goals first | (intro _; exfalso; omega) | intro _) | (apply WO.add; exact rfl; exact rfl; omega) | (apply WO.iav; exact rfl; exact rfl; omega) | (apply WO.ias; exact rfl; exact rfl; omega) | (apply WO.lda; exact rfl; exact fun _ => rfl; (first | omega | (simp only [List.length_set]; omega) | (simp; omega)); decide; exact rfl; case ia => infer_instance) | (apply WO.lsa; exact rfl; (first | exact rfl | assumption | exact at_new | (apply at_old; assumption) | (apply at_put; first | assumption | (simp only [put_length]; assumption))); exact fun _ => rfl; (first | omega | (simp only [List.length_set]; omega) | (simp; omega)); decide; exact rfl; case ia => infer_instance) | (apply WO.hlv; exact rfl; exact rfl; exact rfl) | (apply WO.hpv; exact rfl; exact rfl; exact rfl) | (apply WO.hnv; exact rfl; exact rfl; exact rfl) | (apply WO.pl; exact rfl; exact rfl) | (apply WO.pp; exact rfl; exact rfl)
    refine loop115_0 _ Z a0 _ _ _ l[((i : Int)).toNat]! i (short_get hL (by omega)) (by omega) _ 0 A _ _ _ _ (Nat.zero_add _) hA (fun a6 a7 lo wr => ?_)
    repeat' first | apply W.seq | apply SQn | apply W.region | apply WO.nil | apply W.block | apply W.ret | apply W.exit | apply W.skip | apply SQr | apply SQe | apply BQn | apply BQr | apply BQe | (apply BQo; exact rfl) | apply LQe | apply LQr | (apply W.condT; exact rfl) | (apply W.condF; exact rfl) | (apply W.cond; exact rfl; all_goals intro _) | (apply WO.lss; exact rfl; exact rfl; all_goals first | (intro _; exfalso; omega) | intro _) | (apply WO.add; exact rfl; exact rfl; omega) | (apply WO.iav; exact rfl; exact rfl; omega) | (apply WO.ias; exact rfl; exact rfl; omega) | (apply WO.lda; exact rfl; exact fun _ => rfl; (first | omega | (simp only [List.length_set]; omega) | (simp; omega)); decide; exact rfl; case ia => infer_instance) | (apply WO.lsa; exact rfl; (first | exact rfl | assumption | exact at_new | (apply at_old; assumption) | (apply at_put; first | assumption | (simp only [put_length]; assumption))); exact fun _ => rfl; (first | omega | (simp only [List.length_set]; omega) | (simp; omega)); decide; exact rfl; case ia => infer_instance) | (apply WO.hlv; exact rfl; exact rfl; exact rfl) | (apply WO.hpv; exact rfl; exact rfl; exact rfl) | (apply WO.hnv; exact rfl; exact rfl; exact rfl) | (apply WO.pl; exact rfl; exact rfl) | (apply WO.pp; exact rfl; exact rfl)
    rw [List.drop_zero]
    rw [Int.toNat_natCast] at *
    rw [e] at h1
    exact LQn (loop115_1 rows l hL hl Z a0 r (i + 1) _ _ _ _ _ _ _ _ _ (by omega) (by rw [foldB_len]; exact hA) h1)
def zeros26 : List Int := [0, 0, 0, 0, 0, 0, 0, 0, 0, 0, 0, 0, 0, 0, 0, 0, 0, 0, 0, 0, 0, 0, 0, 0, 0, 0]
theorem agg_top (A : List Int) : (AV.agg (ints A)).top = 0 := by
  simp only [AV.top]
  exact topL_arr (fun _ => rfl) A
theorem ints_one (A : List Int) : (ints A).all oneA = true := one_arr (fun _ => rfl) A
theorem w115 (hft : M.FT = FT) (rows : Int) (l : List Str) (hL : ∀ s ∈ l, s.length < 4611686018427387904) (hl : l.length < 1000000) : Run M 115 [.agg [.int .i64 rows, .vs (strs l) l.length cap]] [] ⟨.agg (ints (imgA l 0 zeros26)), [], []⟩ := by
  have hA : (imgA l 0 zeros26).length = 26 := imgA_len l 0 zeros26
  have hI := (ints_len (imgA l 0 zeros26)).trans hA
  refine run_of_W (by rw [hft]; exact ft115) (by simp) ?_
  unfold b115
  simp only [List.map_cons, List.map_nil, List.getElem?_cons_zero, List.getElem?_cons_succ, List.getElem?_nil, Option.getD_some, Option.getD_none]
  repeat' first | apply W.seq | apply SQn | apply W.region | apply WO.nil | apply W.block | apply W.ret | apply W.exit | apply W.skip | apply SQr | apply SQe | apply BQn | apply BQr | apply BQe | (apply BQo; exact rfl) | apply LQe | apply LQr | (apply W.condT; exact rfl) | (apply W.condF; exact rfl) | (apply W.cond; exact rfl; all_goals intro _) | (apply WO.hlv; exact rfl; exact rfl; exact rfl) | (apply WO.hpv; exact rfl; exact rfl; exact rfl) | (apply WO.hnv; exact rfl; exact rfl; exact rfl) | (apply WO.pl; exact rfl; exact rfl) | (apply WO.pp; exact rfl; exact rfl)
  refine loop115_1 rows l hL hl _ _ l.length 0 zeros26 _ _ _ _ _ _ _ _ (by omega) rfl (fun a4 a5 a6 a7 a11 a12 lo wr => ?_)
  rw [List.drop_zero]
  repeat' first | (apply WO.ldb; exact rfl; exact rfl; exact part_all hA) | (apply WO.stw; exact rfl; exact rfl; exact rfl; exact ⟨hI, rfl, ints_one _⟩) | apply W.seq | apply SQn | apply W.region | apply WO.nil | apply W.block | apply W.ret | apply W.exit | apply W.skip | apply SQr | apply SQe | apply BQn | apply BQr | apply BQe | (apply BQo; exact rfl) | apply LQe | apply LQr | (apply W.condT; exact rfl) | (apply W.condF; exact rfl) | (apply W.cond; exact rfl; all_goals intro _) | (apply WO.hlv; exact rfl; exact rfl; exact rfl) | (apply WO.hpv; exact rfl; exact rfl; exact rfl) | (apply WO.hnv; exact rfl; exact rfl; exact rfl) | (apply WO.pl; exact rfl; exact rfl) | (apply WO.pp; exact rfl; exact rfl)
  refine ⟨.inr rfl, rfl, [.agg (ints (imgA l 0 zeros26))], ?_, rfl, ?_⟩
  · have hp := part_all hA
    simp only [resultsA, St.opd, readAt, Heap.at, Heap.put]
    simp only [List.getElem?_cons_succ, List.getElem?_cons_zero, List.set_cons_succ, List.set_cons_zero, Option.bind_some, Option.join_some, hp]
  · rw [agg_top]; rfl
end Go.Ab.Ch5


/-
  Own work: images: the names of the torsos, both ways.
-/
namespace Go.Ab.Ch5
variable {M : Mach} {cap : Option Nat}

/-! A list of texts that is being built. -/
theorem strs_len (l : List Str) : (strs l).length = l.length := (arr_length (f := cs) (esz := 1) (fun _ => rfl) l).trans (Nat.mul_one _)
theorem strs_append (a b : List Str) : strs (a ++ b) = strs a ++ strs b := by simp [strs, arr]
def OutW (hp : Heap) (o : AV) (acc : List Str) : Prop := (acc = [] ∧ o = .nilsl) ∨ ∃ c, acc ≠ [] ∧ o = .sl c 0 acc.length 1 none ∧ hp.at c = some (.cells (strs acc) 9)
/-- One element is appended to a slice whose block nothing else names. -/
theorem WO.ap16 {t len c : Nat} {x y : IOpd} {l : List IOper} {pe : List AV} {lo : List (Nat × AV)} {hp : Heap} {df wr : List Nat} {v : AV} {old : List AV} {Q : StW → Prop} (hx : (St.mk pe lo (hp ++ [some (.cells [v] 9)]) df).opd x = some (.sl c 0 len 1 none)) (hy : (St.mk pe lo (hp ++ [some (.cells [v] 9)]) df).opd y = some (.sl hp.length 0 1 1 (some 1)))
    (hv : oneA v = true) (hb : hp.at c = some (.cells old 9)) (ho : old.length = len) (hn : len < 1000000)
    (h : ∀ (H : Heap) (w' : List Nat), H.length = hp.length + 2 → H.at (hp.length + 1) = some (.cells (old ++ [v]) 9) → (∀ a o, a ≠ c → hp.at a = some o → H.at a = some o) → (∀ a ∈ w', a = c ∨ a ∈ wr) → WO M l ⟨⟨pe, (t, .sl (hp.length + 1) 0 (len + 1) 1 none) :: lo, H, df⟩, w'⟩ Q) :
    WO M (⟨.l t, .append 9 1 16 x y, none⟩ :: l) ⟨⟨pe, lo, hp ++ [some (.cells [v] 9)], df⟩, wr⟩ Q := by
  have hs : sliceCells (hp ++ [some (.cells [v] 9)]) (.sl hp.length 0 1 1 (some 1)) = some ([v], 1) := by
    simp [sliceCells, at_new, cut]
  have hc := at_lt hb
  have hb' : Heap.at (hp ++ [some (.cells [v] 9)]) c = some (.cells old 9) := at_old hb
  have hroom : (len + 1) * 16 ≤ roomLimit := by unfold roomLimit; omega
  refine WO.hlv (v := .sl (hp.length + 1) 0 (len + 1) 1 none) (h' := (hp ++ [some (Blk.cells [v] 9)]).put c none ++ [some (Blk.cells (old ++ [v]) 9)]) (w' := [c]) ?_ rfl rfl (h _ _ (by simp [put_length]) ?_ (fun a o hn ha => ?_) (fun a ha => ?_))
  · simp only [heapA, hx, hy, appendA, hs]
    rw [if_pos ⟨by simp, by omega, by simp [hv]⟩, if_neg (by omega), if_pos ⟨trivial, hroom⟩, hb']
    simp only
    rw [if_pos ⟨by omega, trivial⟩]
    simp
  · have : ((hp ++ [some (Blk.cells [v] 9)]).put c none).length = hp.length + 1 := by simp [put_length]
    rw [← this]; exact at_new
  · exact at_old (at_else hn (at_old ha))
  · simp at ha; exact ha
theorem OutW.push {t : Nat} {x : Str} {l : List IOper} {pe : List AV} {lo : List (Nat × AV)} {hp : Heap} {df wr : List Nat} {a b : IOpd} {o : AV} {acc : List Str} {Q : StW → Prop} (h : OutW hp o acc) (ha : (St.mk pe lo (hp ++ [some (.cells [.str x] 9)]) df).opd a = some o) (hb : (St.mk pe lo (hp ++ [some (.cells [.str x] 9)]) df).opd b = some (.sl hp.length 0 1 1 (some 1)))
    (hn : acc.length < 1000000) (hQ : ∀ (H : Heap) (w' : List Nat) o', OutW H o' (acc ++ [x]) → (∀ k blk, (∀ c, o = .sl c 0 acc.length 1 none → k ≠ c) → hp.at k = some blk → H.at k = some blk) → (∀ c n, o' = .sl c 0 n 1 none → hp.length ≤ c) → hp.length ≤ H.length → WO M l ⟨⟨pe, (t, o') :: lo, H, df⟩, w'⟩ Q) : WO M (⟨.l t, .append 9 1 16 a b, none⟩ :: l) ⟨⟨pe, lo, hp ++ [some (.cells [.str x] 9)], df⟩, wr⟩ Q := by
  rcases h with ⟨rfl, rfl⟩ | ⟨c, _, rfl, hc⟩
  · have hs : sliceCells (hp ++ [some (.cells [.str x] 9)]) (.sl hp.length 0 1 1 (some 1)) = some ([.str x], 1) := by
      simp [sliceCells, at_new, cut]
    refine WO.apn ha hb hs ⟨rfl, by decide, rfl⟩ ⟨by decide, by decide⟩ (hQ _ _ _ (.inr ⟨_, by simp, rfl, at_new⟩) (fun k blk _ hk => at_old (at_old hk)) (fun c n hc => by cases hc; simp) (by simp))
  · refine WO.ap16 ha hb rfl hc (strs_len acc) hn (fun H w' h1 h2 h3 _ => hQ H w' _ (.inr ⟨hp.length + 1, by simp, by simp, ?_⟩) (fun k blk hk hb => h3 k blk (hk c rfl) hb) (fun c n hc => by cases hc; omega) (by omega))
    rw [h2, strs_append]
    rfl
theorem OutW.old {hp J : Heap} {o : AV} {acc : List Str} (h : OutW hp o acc) : OutW (hp ++ J) o acc := by
  rcases h with h | ⟨c, h0, h1, h2⟩
  · exact .inl h
  · exact .inr ⟨c, h0, h1, at_old h2⟩
theorem outw_end {hp : Heap} {o : AV} {acc : List Str} (h : OutW hp o acc) : OutW (if (tupA [o]).top ≤ 0 then [] else hp) o acc := by
  rcases h with ⟨h1, rfl⟩ | ⟨c, h0, rfl, h2⟩
  · exact .inl ⟨h1, rfl⟩
  · refine .inr ⟨c, h0, rfl, ?_⟩
    rw [if_neg (by simp [tupA, AV.top])]
    exact h2

/-! names. -/
def letter (i : Nat) : Str := [UInt8.ofNat (65 + i)]
def namesL : List Int → Nat → List Str
  | [], _ => []
  | a :: A, i => if 0 < a then letter i :: namesL A (i + 1) else namesL A (i + 1)
theorem namesL_drop {A : List Int} {i : Nat} (h : i < A.length) : namesL (A.drop i) i = if 0 < A[i]! then letter i :: namesL (A.drop (i + 1)) (i + 1) else namesL (A.drop (i + 1)) (i + 1) := by
  rw [List.drop_eq_getElem_cons h, getElem!_pos A i h, namesL]
theorem namesL_len : ∀ (A : List Int) (i : Nat), (namesL A i).length ≤ A.length
  | [], _ => Nat.le_refl _
  | a :: A, i => by
    rw [namesL]
    have := namesL_len A (i + 1)
    split <;> simp <;> omega
theorem letter_eq (i : Nat) : ([UInt8.ofNat ((65 : Int) + i).toNat] : Str) = letter i := by
  unfold letter
  congr 2
theorem loop136 (A : List Int) (hA : A.length = 26) (a0 a1 : AV) {Q : Ex → StW → Prop} : ∀ (r i : Nat) (o a4 a5 : AV) (acc : List Str) (hp : Heap) (lo : List (Nat × AV)) (wr : List Nat), i + r = 26 → acc.length ≤ i → OutW hp o acc →
    (∀ o a4 a5 hp lo wr, OutW hp o (acc ++ namesL (A.drop i) i) → Q (.exit 0) ⟨⟨[a0, a1, .nilsl, o, a4, a5, .agg (ints A), .int .i64 26], lo, hp, []⟩, wr⟩) →
    W M (.loop b136_0) ⟨⟨[a0, a1, .nilsl, o, a4, a5, .agg (ints A), .int .i64 i], lo, hp, []⟩, wr⟩ Q := by
  intro r
  induction r with
  | zero =>
    intro i o a4 a5 acc hp lo wr hi ha ho hQ
    obtain rfl : i = 26 := by omega
    refine W.loop ?_
    unfold b136_0
    repeat' first | apply W.seq | apply SQn | apply W.region | apply WO.nil | apply W.block | apply W.ret | apply W.exit | apply W.skip | apply SQr | apply SQe | apply BQn | apply BQr | apply BQe | (apply BQo; exact rfl) | apply LQe | apply LQr | (apply W.condT; exact rfl) | (apply W.condF; exact rfl) | (apply W.cond; exact rfl; all_goals intro _) | (apply WO.lss; exact rfl; exact rfl; all_goals first | (intro _; exfalso; omega) | intro _) | (apply WO.gtr; exact rfl; exact rfl; all_goals first | (intro _; exfalso; omega) | intro _) | (apply WO.add; exact rfl; exact rfl; omega) | (apply WO.idx; exact rfl; exact rfl; omega) | (apply WO.hlv; exact rfl; exact rfl; exact rfl) | (apply WO.hpv; exact rfl; exact rfl; exact rfl) | (apply WO.hnv; exact rfl; exact rfl; exact rfl) | (apply WO.pl; exact rfl; exact rfl) | (apply WO.pp; exact rfl; exact rfl)
    refine hQ _ _ _ _ _ _ ?_
    rw [← hA, List.drop_length]
    simpa [namesL] using ho
  | succ r ih =>
    intro i o a4 a5 acc hp lo wr hi ha ho hQ
    have e := namesL_drop (A := A) (i := (i : Int).toNat) (by omega)
    rw [Int.toNat_natCast] at e
    have hlen : acc.length < 1000000 := by omega
    refine W.loop ?_
    unfold b136_0
    repeat' first | (apply WO.ixa; exact rfl; exact rfl; omega; exact hA) | (apply WO.cv32; exact rfl; omega) | (apply WO.cvr; exact rfl; omega) | apply W.seq | apply SQn | apply W.region | apply WO.nil | apply W.block | apply W.ret | apply W.exit | apply W.skip | apply SQr | apply SQe | apply BQn | apply BQr | apply BQe | (apply BQo; exact rfl) | apply LQe | apply LQr | (apply W.condT; exact rfl) | (apply W.condF; exact rfl) | (apply W.cond; exact rfl; all_goals intro _) | (apply WO.lss; exact rfl; exact rfl; all_goals first | (intro _; exfalso; omega) | intro _) | (apply WO.gtr; exact rfl; exact rfl; all_goals first | (intro _; exfalso; omega) | intro _) | (apply WO.add; exact rfl; exact rfl; omega) | (refine OutW.push ho rfl rfl hlen (fun H w' o' ho' hk2 hk3 hk4 => ?_)) | (apply WO.idx; exact rfl; exact rfl; omega) | (apply WO.hlv; exact rfl; exact rfl; exact rfl) | (apply WO.hpv; exact rfl; exact rfl; exact rfl) | (apply WO.hnv; exact rfl; exact rfl; exact rfl) | (apply WO.pl; exact rfl; exact rfl) | (apply WO.pp; exact rfl; exact rfl)
    · rename_i g1
      rw [Int.toNat_natCast] at g1
      rw [if_pos (by omega)] at e
      rw [letter_eq] at ho'
      exact LQn (ih (i + 1) o' _ _ (acc ++ [letter i]) H _ _ (by omega) (by simp; omega) ho' (fun o a4 a5 hp lo wr h => hQ o a4 a5 hp lo wr (by rw [e]; simpa using h)))
    · rename_i g1
      rw [Int.toNat_natCast] at g1
      rw [if_neg (by omega)] at e
      exact LQn (ih (i + 1) o _ _ acc hp _ _ (by omega) (by omega) ho (fun o a4 a5 hp lo wr h => hQ o a4 a5 hp lo wr (by rw [e]; exact h)))
theorem w136 (hft : M.FT = FT) (A : List Int) (hA : A.length = 26) : ∃ v hh, OutW hh v (namesL A 0) ∧ Run M 136 [.agg (ints A)] [] ⟨v, hh, []⟩ := by
  have hI := (ints_len A).trans hA
  refine run_ofE (P := fun v hh => OutW hh v (namesL A 0)) (by rw [hft]; exact ft136) (by simp) ?_
  unfold b136
  simp only [List.map_cons, List.map_nil, List.getElem?_cons_zero, List.getElem?_cons_succ, List.getElem?_nil, Option.getD_some, Option.getD_none]
  repeat' first | (apply WO.bxp; exact rfl; exact hI) | (apply WO.ldbp; exact rfl; exact rfl; exact part_all hA) | apply W.seq | apply SQn | apply W.region | apply WO.nil | apply W.block | apply W.ret | apply W.exit | apply W.skip | apply SQr | apply SQe | apply BQn | apply BQr | apply BQe | (apply BQo; exact rfl) | apply LQe | apply LQr | (apply W.condT; exact rfl) | (apply W.condF; exact rfl) | (apply W.cond; exact rfl; all_goals intro _) | (apply WO.hlv; exact rfl; exact rfl; exact rfl) | (apply WO.hpv; exact rfl; exact rfl; exact rfl) | (apply WO.hnv; exact rfl; exact rfl; exact rfl) | (apply WO.pl; exact rfl; exact rfl) | (apply WO.pp; exact rfl; exact rfl)
  refine loop136 A hA _ _ 26 0 _ _ _ [] _ _ _ (by omega) (Nat.le_refl _) (.inl ⟨rfl, rfl⟩) (fun o a4 a5 hp lo wr ho => ?_)
  rw [List.nil_append, List.drop_zero] at ho
  repeat' first | apply W.seq | apply SQn | apply W.region | apply WO.nil | apply W.block | apply W.ret | apply W.exit | apply W.skip | apply SQr | apply SQe | apply BQn | apply BQr | apply BQe | (apply BQo; exact rfl) | apply LQe | apply LQr | (apply W.condT; exact rfl) | (apply W.condF; exact rfl) | (apply W.cond; exact rfl; all_goals intro _) | (apply WO.hlv; exact rfl; exact rfl; exact rfl) | (apply WO.hpv; exact rfl; exact rfl; exact rfl) | (apply WO.hnv; exact rfl; exact rfl; exact rfl) | (apply WO.pl; exact rfl; exact rfl) | (apply WO.pp; exact rfl; exact rfl)
  exact ⟨.inr rfl, rfl, _, rfl, outw_end ho⟩

/-! The reference's. -/
def firsts26 (l : List Str) : List Int := (List.range 26).map fun k : Nat => firstCol (65 + (k : Int)) l 0 + 1
theorem firsts_len (l : List Str) : (firsts26 l).length = 26 := by simp [firsts26]
theorem firsts_get (l : List Str) {i : Nat} (h : i < 26) : (firsts26 l)[i]! = firstCol (65 + (i : Int)) l 0 + 1 := by
  rw [getElem!_pos _ i (by rw [firsts_len]; exact h)]
  simp [firsts26]
theorem loop73 (c28 : ∀ rows (l : List Str) cap c h, (∀ s ∈ l, s.length < 4611686018427387904) → l.length < 1000000 → M.ext 28 [.agg [.int .i64 rows, .vs (strs l) l.length cap], .int .u8 c] h = some ⟨.int .i64 (firstCol c l 0), h, []⟩) (rows : Int) (l : List Str) (hL : ∀ s ∈ l, s.length < 4611686018427387904) (hl : l.length < 1000000) (a0 : AV) {Q : Ex → StW → Prop} : ∀ (r i : Nat) (o : AV) (acc : List Str) (hp : Heap) (lo : List (Nat × AV)) (wr : List Nat), i + r = 26 → acc.length ≤ i → OutW hp o acc → hp.at 0 = some (.cells [.int .i64 rows, .vs (strs l) l.length cap] 25) → (∀ c, o = .sl c 0 acc.length 1 none → 0 ≠ c) →
    (∀ o hp lo wr, OutW hp o (acc ++ namesL ((firsts26 l).drop i) i) → Q (.exit 0) ⟨⟨[a0, .ptr 0 0, .nilsl, o, .int .i32 91], lo, hp, []⟩, wr⟩) →
    W M (.loop b73_0) ⟨⟨[a0, .ptr 0 0, .nilsl, o, .int .i32 (65 + (i : Int))], lo, hp, []⟩, wr⟩ Q := by
  intro r
  induction r with
  | zero =>
    intro i o acc hp lo wr hi ha ho hb hne hQ
    obtain rfl : i = 26 := by omega
    refine W.loop ?_
    unfold b73_0
    repeat' first | apply W.seq | apply SQn | apply W.region | apply WO.nil | apply W.block | apply W.ret | apply W.exit | apply W.skip | apply SQr | apply SQe | apply BQn | apply BQr | apply BQe | (apply BQo; exact rfl) | apply LQe | apply LQr | (apply W.condT; exact rfl) | (apply W.condF; exact rfl) | (apply W.cond; exact rfl; all_goals intro _) | (apply WO.leq; exact rfl; exact rfl; all_goals first | (intro _; exfalso; omega) | intro _) | (apply WO.geq; exact rfl; exact rfl; all_goals first | (intro _; exfalso; omega) | intro _) | (apply WO.add; exact rfl; exact rfl; omega) | (apply WO.clb; exact rfl; exact rfl; exact rfl; all_goals first | (intro h; exact absurd h (by decide)) | intro _) | (apply WO.cll; exact rfl; exact rfl; exact rfl) | (apply WO.hlv; exact rfl; exact rfl; exact rfl) | (apply WO.hpv; exact rfl; exact rfl; exact rfl) | (apply WO.hnv; exact rfl; exact rfl; exact rfl) | (apply WO.pl; exact rfl; exact rfl) | (apply WO.pp; exact rfl; exact rfl)
    refine hQ _ _ _ _ ?_
    rw [← firsts_len l, List.drop_length]
    simpa [namesL] using ho
  | succ r ih =>
    intro i o acc hp lo wr hi ha ho hb hne hQ
    have e := namesL_drop (A := firsts26 l) (i := i) (by rw [firsts_len]; omega)
    rw [firsts_get l (by omega)] at e
    have hlen : acc.length < 1000000 := by omega
    have hc := fun h => c28 rows l cap (65 + (i : Int)) h hL hl
    have hlt := firstCol_lt (65 + (i : Int)) l 0
    refine W.loop ?_
    unfold b73_0
    repeat' first | (apply WO.ldb; exact rfl; exact hb; exact rfl) | (apply WO.cv8; exact rfl; omega) | (apply WO.cvr; exact rfl; omega) | (apply WO.add32; exact rfl; exact rfl; omega) | apply W.seq | apply SQn | apply W.region | apply WO.nil | apply W.block | apply W.ret | apply W.exit | apply W.skip | apply SQr | apply SQe | apply BQn | apply BQr | apply BQe | (apply BQo; exact rfl) | apply LQe | apply LQr | (apply W.condT; exact rfl) | (apply W.condF; exact rfl) | (apply W.cond; exact rfl; all_goals intro _) | (apply WO.leq; exact rfl; exact rfl; all_goals first | (intro _; exfalso; omega) | intro _) | (apply WO.geq; exact rfl; exact rfl; all_goals first | (intro _; exfalso; omega) | intro _) | (apply WO.add; exact rfl; exact rfl; omega) | (apply WO.cll; exact rfl; exact rfl; first | exact hc _) | (refine OutW.push ho rfl rfl hlen (fun H w' o' ho' hk hk3 hk4 => ?_)) | (apply WO.clb; exact rfl; exact rfl; exact rfl; all_goals first | (intro h; exact absurd h (by decide)) | intro _) | (apply WO.cll; exact rfl; exact rfl; exact rfl) | (apply WO.hlv; exact rfl; exact rfl; exact rfl) | (apply WO.hpv; exact rfl; exact rfl; exact rfl) | (apply WO.hnv; exact rfl; exact rfl; exact rfl) | (apply WO.pl; exact rfl; exact rfl) | (apply WO.pp; exact rfl; exact rfl)
    · rename_i g1
      rw [if_pos (by omega)] at e
      rw [letter_eq] at ho'
      rw [show (65 : Int) + (i : Int) + 1 = 65 + ((i + 1 : Nat) : Int) by omega]
      refine LQn (ih (i + 1) o' (acc ++ [letter i]) H _ _ (by omega) (by simp; omega) ho' (hk 0 _ hne hb) ?_ (fun o hp lo wr h => hQ o hp lo wr (by rw [e]; simpa using h)))
      intro c hc'
      rcases ho' with ⟨h1, _⟩ | ⟨c', _, h2, h3⟩
      · simp at h1
      · rw [hc'] at h2
        cases h2
        intro h0
        subst h0
        rw [hk 0 _ hne hb] at h3
        have h9 : (25 : Nat) = 9 := congrArg (fun o => match o with | some (Blk.cells _ e) => e | _ => 0) h3
        exact absurd h9 (by decide)
    · rename_i g1
      rw [if_neg (by omega)] at e
      rw [show (65 : Int) + (i : Int) + 1 = 65 + ((i + 1 : Nat) : Int) by omega]
      exact LQn (ih (i + 1) o acc hp _ _ (by omega) (by omega) ho hb hne (fun o hp lo wr h => hQ o hp lo wr (by rw [e]; exact h)))
theorem w73 (hft : M.FT = FT) (c28 : ∀ rows (l : List Str) cap c h, (∀ s ∈ l, s.length < 4611686018427387904) → l.length < 1000000 → M.ext 28 [.agg [.int .i64 rows, .vs (strs l) l.length cap], .int .u8 c] h = some ⟨.int .i64 (firstCol c l 0), h, []⟩) (rows : Int) (l : List Str) (hL : ∀ s ∈ l, s.length < 4611686018427387904) (hl : l.length < 1000000) :
    ∃ v hh, OutW hh v (namesL (firsts26 l) 0) ∧ Run M 73 [.agg [.int .i64 rows, .vs (strs l) l.length cap]] [] ⟨v, hh, []⟩ := by
  refine run_ofE (P := fun v hh => OutW hh v (namesL (firsts26 l) 0)) (by rw [hft]; exact ft73) (by simp) ?_
  unfold b73
  simp only [List.map_cons, List.map_nil, List.getElem?_cons_zero, List.getElem?_cons_succ, List.getElem?_nil, Option.getD_some, Option.getD_none]
  repeat' first | apply W.seq | apply SQn | apply W.region | apply WO.nil | apply W.block | apply W.ret | apply W.exit | apply W.skip | apply SQr | apply SQe | apply BQn | apply BQr | apply BQe | (apply BQo; exact rfl) | apply LQe | apply LQr | (apply W.condT; exact rfl) | (apply W.condF; exact rfl) | (apply W.cond; exact rfl; all_goals intro _) | (apply WO.hlv; exact rfl; exact rfl; exact rfl) | (apply WO.hpv; exact rfl; exact rfl; exact rfl) | (apply WO.hnv; exact rfl; exact rfl; exact rfl) | (apply WO.pl; exact rfl; exact rfl) | (apply WO.pp; exact rfl; exact rfl)
  refine loop73 (cap := cap) c28 rows l hL hl _ 26 0 _ [] _ _ _ (by omega) (Nat.le_refl _) (.inl ⟨rfl, rfl⟩) rfl (by intro c h; cases h) (fun o hp lo wr ho => ?_)
  rw [List.nil_append, List.drop_zero] at ho
  repeat' first | apply W.seq | apply SQn | apply W.region | apply WO.nil | apply W.block | apply W.ret | apply W.exit | apply W.skip | apply SQr | apply SQe | apply BQn | apply BQr | apply BQe | (apply BQo; exact rfl) | apply LQe | apply LQr | (apply W.condT; exact rfl) | (apply W.condF; exact rfl) | (apply W.cond; exact rfl; all_goals intro _) | (apply WO.hlv; exact rfl; exact rfl; exact rfl) | (apply WO.hpv; exact rfl; exact rfl; exact rfl) | (apply WO.hnv; exact rfl; exact rfl; exact rfl) | (apply WO.pl; exact rfl; exact rfl) | (apply WO.pp; exact rfl; exact rfl)
  exact ⟨.inr rfl, rfl, _, rfl, outw_end ho⟩

/-! They are the same. -/
theorem stepB_get {i : Nat} {A : List Int} {b : UInt8} {k : Nat} (hk : k < 26) (hA : A.length = 26) : (stepB i A b)[k]! = if A[k]! ≠ 0 then A[k]! else if b.toNat = 65 + k then (i : Int) + 1 else 0 := by
  unfold stepB
  by_cases hc : (65 ≤ b.toNat ∧ b.toNat ≤ 90) ∧ A[b.toNat - 65]! = 0
  · rw [if_pos hc, getElem!_pos _ k (by simp; omega), List.getElem_set]
    by_cases e : b.toNat - 65 = k
    · rw [if_pos e]
      subst e
      rw [if_neg (fun h => h hc.2), if_pos (by omega)]
    · rw [if_neg e, ← getElem!_pos A k (by omega), if_neg (show ¬ b.toNat = 65 + k by omega)]
      split
      · rfl
      · rename_i h; exact Decidable.not_not.1 h
  · rw [if_neg hc]
    split
    · rfl
    · rename_i h
      have h0 : A[k]! = 0 := Decidable.not_not.1 h
      split
      · rename_i hb
        exfalso
        apply hc
        have : b.toNat - 65 = k := by omega
        exact ⟨by omega, by rw [this]; exact h0⟩
      · exact h0
theorem foldB_get {i : Nat} {k : Nat} (hk : k < 26) : ∀ (s : Str) (A : List Int), A.length = 26 → (s.foldl (stepB i) A)[k]! = if A[k]! ≠ 0 then A[k]! else if hasB (65 + (k : Int)) s then (i : Int) + 1 else 0
  | [], A, hA => by
    rw [List.foldl_nil]
    split
    · rfl
    · rename_i h; simpa [hasB] using h
  | b :: s, A, hA => by
    rw [List.foldl_cons, foldB_get hk s _ (by rw [stepB_len]; exact hA), stepB_get hk hA]
    by_cases h0 : A[k]! = 0
    · by_cases hb : b.toNat = 65 + k
      · have h1 : hasB (65 + (k : Int)) (b :: s) = true := by simp [hasB, hb]
        simp only [h0, h1, if_pos hb, ne_eq, not_true_eq_false, if_false, if_true]
        rw [if_pos (by omega)]
      · have h1 : hasB (65 + (k : Int)) (b :: s) = hasB (65 + (k : Int)) s := by
          simp only [hasB, List.any_cons]
          rw [decide_eq_false (show ¬ (b.toNat : Int) = 65 + (k : Int) by omega), Bool.false_or]
        simp only [h0, h1, if_neg hb, ne_eq, not_true_eq_false, if_false]
    · simp only [ne_eq, h0, not_false_eq_true, if_true]
theorem imgA_get {k : Nat} (hk : k < 26) : ∀ (l : List Str) (i : Nat) (A : List Int), A.length = 26 → (imgA l i A)[k]! = if A[k]! ≠ 0 then A[k]! else firstCol (65 + (k : Int)) l i + 1
  | [], i, A, hA => by
    rw [imgA]
    split
    · rfl
    · rename_i h; simpa [firstCol] using h
  | s :: l, i, A, hA => by
    rw [imgA, imgA_get hk l (i + 1) _ (by rw [foldB_len]; exact hA), foldB_get hk s A hA]
    by_cases h0 : A[k]! = 0
    · rw [firstCol]
      cases hs : hasB (65 + (k : Int)) s
      · simp [h0]
      · simp only [h0, ne_eq, not_true_eq_false, if_false, if_true]
        rw [if_pos (by omega)]
    · simp only [ne_eq, h0, not_false_eq_true, if_true]
theorem torsos_eq (l : List Str) : imgA l 0 zeros26 = firsts26 l := by
  have h1 : (imgA l 0 zeros26).length = 26 := imgA_len l 0 zeros26
  apply List.ext_getElem (by rw [h1, firsts_len])
  intro k hk hk'
  rw [h1] at hk
  rw [← getElem!_pos _ k, ← getElem!_pos _ k, imgA_get hk l 0 zeros26 rfl, firsts_get l hk]
  have : zeros26[k]! = 0 := (by decide : ∀ k, k < 26 → zeros26[k]! = 0) k hk
  rw [this, if_neg (fun h => h rfl)]
end Go.Ab.Ch5


/-
  Own work: images: Torsos; the columns in the other order, both ways.
-/
namespace Go.Ab.Ch5
variable {M : Mach} {cap : Option Nat} {h : Heap} {b n : Nat}

/-! Torsos. -/
structure C55 (M : Mach) : Prop where
  ft : M.FT = FT
  c70 : ∀ rows (l : List Str) cap h, (∀ s ∈ l, s.length < 4611686018427387904) → l.length < 1000000 → M.ext 70 [.agg [.int .i64 rows, .vs (strs l) l.length cap]] h = some ⟨.int .i64 (imgE rows l), h, []⟩
  c115 : ∀ rows (l : List Str) cap h, (∀ s ∈ l, s.length < 4611686018427387904) → l.length < 1000000 → M.ext 115 [.agg [.int .i64 rows, .vs (strs l) l.length cap]] h = some ⟨.agg (ints (firsts26 l)), h, []⟩
  c136n : ∀ A h, A.length = 26 → namesL A 0 = [] → M.ext 136 [.agg (ints A)] h = some ⟨.nilsl, h, []⟩
  c136s : ∀ A h, A.length = 26 → namesL A 0 ≠ [] → M.ext 136 [.agg (ints A)] h = some ⟨.sl h.length 0 (namesL A 0).length 1 none, h ++ [some (.cells (strs (namesL A 0)) 9)], []⟩
theorem w55e (C : C55 M) (rows : Int) (l : List Str) (hL : ∀ s ∈ l, s.length < 4611686018427387904) (hl : l.length < 1000000) (hE : imgE rows l ≠ 0) : Run M 55 [.agg [.int .i64 rows, .vs (strs l) l.length cap]] [] ⟨.tup [.nilsl, .int .i64 (imgE rows l)], [], []⟩ := by
  have q70 := fun h => C.c70 rows l cap h hL hl
  refine run_of_W (by rw [C.ft]; exact ft55) (by simp) ?_
  unfold b55
  simp only [List.map_cons, List.map_nil, List.getElem?_cons_zero, List.getElem?_cons_succ, List.getElem?_nil, Option.getD_some, Option.getD_none]
  repeat' first | apply W.seq | apply SQn | apply W.region | apply WO.nil | apply W.block | apply W.ret | apply W.exit | apply W.skip | apply SQr | apply SQe | apply BQn | apply BQr | apply BQe | (apply BQo; exact rfl) | apply LQe | apply LQr | (apply W.condT; exact rfl) | (apply W.condF; exact rfl) | (apply W.cond; exact rfl; all_goals intro _) | (apply WO.neq; exact rfl; exact rfl; all_goals first | (intro _; exfalso; omega) | intro _) | (apply WO.cll; exact rfl; exact rfl; first | exact q70 _) | (apply WO.sneq; exact rfl; exact rfl; all_goals first | (intro h; exact absurd h (by decide)) | (intro h; exact absurd rfl h) | (intro h; contradiction) | intro _) | (apply WO.clb; exact rfl; exact rfl; exact rfl; all_goals first | (intro h; exact absurd h (by decide)) | intro _) | (apply WO.cll; exact rfl; exact rfl; exact rfl) | (apply WO.hlv; exact rfl; exact rfl; exact rfl) | (apply WO.hpv; exact rfl; exact rfl; exact rfl) | (apply WO.hnv; exact rfl; exact rfl; exact rfl) | (apply WO.pl; exact rfl; exact rfl) | (apply WO.pp; exact rfl; exact rfl)
  · exact ⟨.inr rfl, rfl, _, rfl, rfl, rfl⟩
theorem outw_end2 {hp : Heap} {o : AV} {acc : List Str} (h : OutW hp o acc) : OutW (if (AV.tup [o, .int .i64 0]).top ≤ 0 then [] else hp) o acc := by
  rcases h with ⟨h1, rfl⟩ | ⟨c, h0, rfl, h2⟩
  · exact .inl ⟨h1, rfl⟩
  · refine .inr ⟨c, h0, rfl, ?_⟩
    rw [if_neg (by simp [AV.top, topL])]
    exact h2
theorem w55 (C : C55 M) (rows : Int) (l : List Str) (hL : ∀ s ∈ l, s.length < 4611686018427387904) (hl : l.length < 1000000) (hE : imgE rows l = 0) : ∃ v hh, OutW hh v (namesL (firsts26 l) 0) ∧ Run M 55 [.agg [.int .i64 rows, .vs (strs l) l.length cap]] [] ⟨.tup [v, .int .i64 0], hh, []⟩ := by
  have q70 := fun h => C.c70 rows l cap h hL hl
  rw [hE] at q70
  have q115 := fun h => C.c115 rows l cap h hL hl
  obtain ⟨v, hh, ⟨v0, rfl, ho⟩, hr⟩ := run_ofE (M := M) (f := 55) (ars := [.agg [.int .i64 rows, .vs (strs l) l.length cap]]) (P := fun v hh => ∃ v0, v = .tup [v0, .int .i64 0] ∧ OutW hh v0 (namesL (firsts26 l) 0)) (by rw [C.ft]; exact ft55) (by simp) (by
    unfold b55
    simp only [List.map_cons, List.map_nil, List.getElem?_cons_zero, List.getElem?_cons_succ, List.getElem?_nil, Option.getD_some, Option.getD_none]
    by_cases hN : namesL (firsts26 l) 0 = []
    · have q136 := fun h => C.c136n (firsts26 l) h (firsts_len l) hN
      repeat' first | apply W.seq | apply SQn | apply W.region | apply WO.nil | apply W.block | apply W.ret | apply W.exit | apply W.skip | apply SQr | apply SQe | apply BQn | apply BQr | apply BQe | (apply BQo; exact rfl) | apply LQe | apply LQr | (apply W.condT; exact rfl) | (apply W.condF; exact rfl) | (apply W.cond; exact rfl; all_goals intro _) | (apply WO.neq; exact rfl; exact rfl; all_goals first | (intro _; exfalso; omega) | intro _) | (apply WO.cll; exact rfl; exact rfl; first | exact q70 _ | exact q115 _ | exact q136 _) | (apply WO.sneq; exact rfl; exact rfl; all_goals first | (intro h; exact absurd h (by decide)) | (intro h; exact absurd rfl h) | (intro h; contradiction) | intro _) | (apply WO.clb; exact rfl; exact rfl; exact rfl; all_goals first | (intro h; exact absurd h (by decide)) | intro _) | (apply WO.cll; exact rfl; exact rfl; exact rfl) | (apply WO.hlv; exact rfl; exact rfl; exact rfl) | (apply WO.hpv; exact rfl; exact rfl; exact rfl) | (apply WO.hnv; exact rfl; exact rfl; exact rfl) | (apply WO.pl; exact rfl; exact rfl) | (apply WO.pp; exact rfl; exact rfl)
      exact ⟨.inr rfl, rfl, _, rfl, _, rfl, outw_end2 (.inl ⟨hN, rfl⟩)⟩
    · have q136 := fun h => C.c136s (firsts26 l) h (firsts_len l) hN
      repeat' first | apply W.seq | apply SQn | apply W.region | apply WO.nil | apply W.block | apply W.ret | apply W.exit | apply W.skip | apply SQr | apply SQe | apply BQn | apply BQr | apply BQe | (apply BQo; exact rfl) | apply LQe | apply LQr | (apply W.condT; exact rfl) | (apply W.condF; exact rfl) | (apply W.cond; exact rfl; all_goals intro _) | (apply WO.neq; exact rfl; exact rfl; all_goals first | (intro _; exfalso; omega) | intro _) | (apply WO.cll; exact rfl; exact rfl; first | exact q70 _ | exact q115 _ | exact q136 _) | (apply WO.sneq; exact rfl; exact rfl; all_goals first | (intro h; exact absurd h (by decide)) | (intro h; exact absurd rfl h) | (intro h; contradiction) | intro _) | (apply WO.clb; exact rfl; exact rfl; exact rfl; all_goals first | (intro h; exact absurd h (by decide)) | intro _) | (apply WO.cll; exact rfl; exact rfl; exact rfl) | (apply WO.hlv; exact rfl; exact rfl; exact rfl) | (apply WO.hpv; exact rfl; exact rfl; exact rfl) | (apply WO.hnv; exact rfl; exact rfl; exact rfl) | (apply WO.pl; exact rfl; exact rfl) | (apply WO.pp; exact rfl; exact rfl)
      exact ⟨.inr rfl, rfl, _, rfl, _, rfl, outw_end2 (.inr ⟨_, hN, rfl, at_new⟩)⟩)
  exact ⟨v0, hh, ho, hr⟩

/-! slices.Clone, slices.Reverse. -/
theorem strs_one (l : List Str) : (strs l).all oneA = true := one_arr (fun _ => rfl) l
theorem w206 (hft : M.FT = FT) (l : List Str) (hl : l ≠ []) (hn : l.length < 1000000) : Run M 206 [.vs (strs l) l.length cap] [] ⟨.sl 1 0 l.length 1 none, [some (.cells [] 9), some (.cells (strs l) 9)], []⟩ := by
  have hp : 0 < l.length := List.length_pos_iff.2 hl
  have hs : ∀ h, sliceCells h (.vs (strs l) l.length cap) = some (strs l, l.length) := fun _ => rfl
  have he : eqRef .slice (.vs (strs l) l.length cap) .nilsl = some false := by
    cases l with
    | nil => exact absurd rfl hl
    | cons a l => rfl
  have hroom : l.length * 16 ≤ roomLimit := by unfold roomLimit; omega
  refine run_of_W (by rw [hft]; exact ft206) (by simp) ?_
  unfold b206
  simp only [List.map_cons, List.map_nil, List.getElem?_cons_zero, List.getElem?_cons_succ, List.getElem?_nil, Option.getD_some, Option.getD_none]
  repeat' first | apply W.seq | apply SQn | apply W.region | apply WO.nil | apply W.block | apply W.ret | apply W.exit | apply W.skip | apply SQr | apply SQe | apply BQn | apply BQr | apply BQe | (apply BQo; exact rfl) | apply LQe | apply LQr | (apply W.condT; exact rfl) | (apply W.condF; exact rfl) | (apply W.cond; exact rfl; all_goals intro _) | (apply WO.eqs; exact rfl; exact rfl; exact he) | (apply WO.apc; exact rfl; exact rfl; exact rfl; exact hs _; exact ⟨(strs_len l).trans (Nat.mul_one _).symm, by decide, strs_one l⟩; exact ⟨hp, hroom⟩) | (apply WO.hlv; exact rfl; exact rfl; exact rfl) | (apply WO.hpv; exact rfl; exact rfl; exact rfl) | (apply WO.hnv; exact rfl; exact rfl; exact rfl) | (apply WO.pl; exact rfl; exact rfl) | (apply WO.pp; exact rfl; exact rfl)
  exact ⟨.inr rfl, rfl, _, rfl, rfl, rfl⟩

def revS : Nat → Nat → List Str → List Str
  | 0, _, A => A
  | r + 1, i, A => revS r (i + 1) ((A.set i A[A.length - 1 - i]!).set (A.length - 1 - i) A[i]!)
theorem revS_len : ∀ (r i : Nat) (A : List Str), (revS r i A).length = A.length
  | 0, _, _ => rfl
  | r + 1, i, A => by rw [revS, revS_len]; simp
theorem set_get {A : List Str} {i k : Nat} {x : Str} (hk : k < A.length) : (A.set i x)[k]! = if i = k then x else A[k]! := by
  rw [getElem!_pos _ k (by simpa using hk), List.getElem_set, getElem!_pos A k hk]
theorem revS_get {l : List Str} : ∀ (r i : Nat) (A : List Str), i + r = l.length / 2 → A.length = l.length → (∀ k, k < l.length → A[k]! = if k < i ∨ l.length - 1 - i < k then l[l.length - 1 - k]! else l[k]!) → ∀ k, k < l.length → (revS r i A)[k]! = l[l.length - 1 - k]!
  | 0, i, A, hi, hA, hinv, k, hk => by
    rw [revS, hinv k hk]
    split
    · rfl
    · congr 1; omega
  | r + 1, i, A, hi, hA, hinv, k, hk => by
    rw [revS]
    refine revS_get r (i + 1) _ (by omega) (by simpa using hA) (fun k hk => ?_) k hk
    rw [set_get (by simp; omega), set_get (by omega), hA]
    by_cases h1 : l.length - 1 - i = k
    · rw [if_pos h1, hinv i (by omega), if_neg (by omega), if_pos (by omega)]
      congr 1; omega
    · rw [if_neg h1]
      by_cases h2 : i = k
      · rw [if_pos h2, hinv (l.length - 1 - i) (by omega), if_neg (by omega), if_pos (by omega)]
        congr 1; omega
      · rw [if_neg h2, hinv k hk]
        by_cases h3 : k < i ∨ l.length - 1 - i < k
        · rw [if_pos h3, if_pos (by omega)]
        · rw [if_neg h3, if_neg (by omega)]
theorem revS_eq (l : List Str) : revS (l.length / 2) 0 l = l.reverse := by
  apply List.ext_getElem (by rw [revS_len]; simp)
  intro k hk hk'
  rw [revS_len] at hk
  rw [← getElem!_pos _ k, revS_get (l := l) (l.length / 2) 0 l (by omega) rfl (fun k hk => by rw [if_neg (by omega)]) k hk, List.getElem_reverse, getElem!_pos l _ (by omega)]
theorem loop207 (hb : b < h.length) (hn : n < 1000000) {Q : Ex → StW → Prop} : ∀ (r i : Nat), i + r = n / 2 → ∀ (l : List Str) (lo : List (Nat × AV)) (wr : List Nat), l.length = n → Only b wr →
    (∀ a1 a2 lo wr, Only b wr → Q (.exit 0) ⟨⟨[.sl b 0 n 1 cap, a1, a2], lo, h.put b (some (.cells (strs (revS r i l)) 9)), []⟩, wr⟩) →
    W M (.loop b207_0) ⟨⟨[.sl b 0 n 1 cap, .int .i64 i, .int .i64 ((n : Int) - 1 - i)], lo, h.put b (some (.cells (strs l) 9)), []⟩, wr⟩ Q
  | 0, i, hi, l, lo, wr, hl, hw, hQ => by
    refine W.loop ?_
    unfold b207_0
    repeat' first | apply W.seq | apply SQn | apply W.region | apply WO.nil | apply W.block | apply W.ret | apply W.exit | apply W.skip | apply SQr | apply SQe | apply BQn | apply BQr | apply BQe | (apply BQo; exact rfl) | apply LQe | apply LQr | (apply W.drawro; exact rfl) | apply W.draw | apply WD.nil | (apply WD.gT; exact rfl) | (apply WD.gF; exact rfl) | (apply WD.sT; exact rfl) | (apply WD.sF; exact rfl) | (apply WD.sU; exact rfl) | (apply WD.pure1; exact rfl) | (apply WD.load1; exact rfl; exact rfl; exact rfl) | (apply WD.store1; exact rfl; exact rfl; exact rfl) | (apply W.condT; exact rfl) | (apply W.condF; exact rfl) | (apply W.cond; exact rfl; all_goals intro _) | (apply WO.lss; exact rfl; exact rfl; all_goals first | (intro _; exfalso; omega) | intro _) | (apply WO.add; exact rfl; exact rfl; omega) | (apply WO.sub; exact rfl; exact rfl; omega) | (apply WO.iav; exact rfl; exact rfl; omega) | (apply WO.ias; exact rfl; exact rfl; omega) | (apply WO.lda; exact rfl; exact fun _ => rfl; (first | omega | (simp only [List.length_set]; omega) | (simp; omega)); decide; exact rfl; case ia => infer_instance) | (apply WO.lsa; exact rfl; (first | exact rfl | assumption | exact at_new | (apply at_old; assumption) | (apply at_put; first | assumption | (simp only [put_length]; assumption))); exact fun _ => rfl; (first | omega | (simp only [List.length_set]; omega) | (simp; omega)); decide; exact rfl; case ia => infer_instance) | (apply WO.sta; exact rfl; exact rfl; (first | exact rfl | assumption | exact at_new | (apply at_old; assumption) | (apply at_put; first | assumption | (simp only [put_length]; assumption))); exact fun _ => rfl; (first | omega | (simp only [List.length_set]; omega) | (simp; omega)); exact ⟨rfl, by decide, rfl⟩; exact rfl; case ia => infer_instance) | (apply WO.hlv; exact rfl; exact rfl; exact rfl) | (apply WO.hpv; exact rfl; exact rfl; exact rfl) | (apply WO.hnv; exact rfl; exact rfl; exact rfl) | (apply WO.pl; exact rfl; exact rfl) | (apply WO.pp; exact rfl; exact rfl)
    · exact hQ _ _ _ _ hw
  | r + 1, i, hi, l, lo, wr, hl, hw, hQ => by
    have f1 : ((i : Int)).toNat = i := Int.toNat_natCast i
    have f2 : ((n : Int) - 1 - (i : Int)).toNat = l.length - 1 - i := by omega
    have hli : i < l.length := by omega
    have hlc : l.length - 1 - i < l.length := by omega
    refine W.loop ?_
    unfold b207_0
    repeat' first | apply W.seq | apply SQn | apply W.region | apply WO.nil | apply W.block | apply W.ret | apply W.exit | apply W.skip | apply SQr | apply SQe | apply BQn | apply BQr | apply BQe | (apply BQo; exact rfl) | apply LQe | apply LQr | (apply W.drawro; exact rfl) | apply W.draw | apply WD.nil | (apply WD.gT; exact rfl) | (apply WD.gF; exact rfl) | (apply WD.sT; exact rfl) | (apply WD.sF; exact rfl) | (apply WD.sU; exact rfl) | (apply WD.pure1; exact rfl) | (apply WD.load1; exact rfl; exact rfl; exact rfl) | (apply WD.store1; exact rfl; exact rfl; exact rfl) | (apply W.condT; exact rfl) | (apply W.condF; exact rfl) | (apply W.cond; exact rfl; all_goals intro _) | (apply WO.lss; exact rfl; exact rfl; all_goals first | (intro _; exfalso; omega) | intro _) | (apply WO.add; exact rfl; exact rfl; omega) | (apply WO.sub; exact rfl; exact rfl; omega) | (apply WO.iav; exact rfl; exact rfl; omega) | (apply WO.ias; exact rfl; exact rfl; omega) | (apply WO.lda; exact rfl; exact fun _ => rfl; (first | omega | (simp only [List.length_set]; omega) | (simp; omega)); decide; exact rfl; case ia => infer_instance) | (apply WO.lsa; exact rfl; (first | exact rfl | assumption | exact at_new | (apply at_old; assumption) | (apply at_put; first | assumption | (simp only [put_length]; assumption))); exact fun _ => rfl; (first | omega | (simp only [List.length_set]; omega) | (simp; omega)); decide; exact rfl; case ia => infer_instance) | (apply WO.sta; exact rfl; exact rfl; (first | exact rfl | assumption | exact at_new | (apply at_old; assumption) | (apply at_put; first | assumption | (simp only [put_length]; assumption))); exact fun _ => rfl; (first | omega | (simp only [List.length_set]; omega) | (simp; omega)); exact ⟨rfl, by decide, rfl⟩; exact rfl; case ia => infer_instance) | (apply WO.hlv; exact rfl; exact rfl; exact rfl) | (apply WO.hpv; exact rfl; exact rfl; exact rfl) | (apply WO.hnv; exact rfl; exact rfl; exact rfl) | (apply WO.pl; exact rfl; exact rfl) | (apply WO.pp; exact rfl; exact rfl)
    · refine LQn ?_
      rw [put_put, put_put, f1, f2]
      rw [show (n : Int) - 1 - (i : Int) - 1 = (n : Int) - 1 - ((i + 1 : Nat) : Int) by omega]
      exact loop207 hb hn r (i + 1) (by omega) _ _ _ (by simp [hl]) hw.cons.cons hQ
theorem r207 (hft : M.FT = FT) (n207 : ∀ ars h, M.ext 207 ars h = none) (hb : b < h.length) (l : List Str) (hl : l.length < 1000000) :
    ∃ wr, Only b wr ∧ CT M (fnV 207) [.sl b 0 l.length 1 cap] (h.put b (some (.cells (strs l) 9))) ⟨.tup [], h.put b (some (.cells (strs l.reverse) 9)), wr⟩ := by
  obtain ⟨l', wr, hw, rfl, hr⟩ := run_put (M := M) (h := h) (b := b) (l := l) (e := 9) (f := cs) (P := fun l' => l' = l.reverse)
    (ars := [.sl b 0 l.length 1 cap]) (by rw [hft]; exact ft207) (by simp) hb (fun _ => rfl) (by
      unfold b207
      simp only [List.map_cons, List.map_nil, List.getElem?_cons_zero, List.getElem?_cons_succ, List.getElem?_nil, Option.getD_some, Option.getD_none]
      repeat' first | apply W.seq | apply SQn | apply W.region | apply WO.nil | apply W.block | apply W.ret | apply W.exit | apply W.skip | apply SQr | apply SQe | apply BQn | apply BQr | apply BQe | (apply BQo; exact rfl) | apply LQe | apply LQr | (apply W.condT; exact rfl) | (apply W.condF; exact rfl) | (apply W.cond; exact rfl; all_goals intro _) | (apply WO.sub; exact rfl; exact rfl; omega) | (apply WO.pl; exact rfl; exact rfl) | (apply WO.pp; exact rfl; exact rfl)
      rw [show (l.length : Int) - 1 = (l.length : Int) - 1 - ((0 : Nat) : Int) by omega]
      refine loop207 hb hl (l.length / 2) 0 (by omega) l _ _ rfl Only.nil (fun a1 a2 lo wr hw => ?_)
      repeat' first | apply W.seq | apply SQn | apply W.region | apply WO.nil | apply W.block | apply W.ret | apply W.exit | apply W.skip | apply SQr | apply SQe | apply BQn | apply BQr | apply BQe | (apply BQo; exact rfl) | apply LQe | apply LQr | (apply W.condT; exact rfl) | (apply W.condF; exact rfl) | (apply W.cond; exact rfl; all_goals intro _) | (apply WO.sub; exact rfl; exact rfl; omega) | (apply WO.pl; exact rfl; exact rfl) | (apply WO.pp; exact rfl; exact rfl)
      exact ⟨.inl rfl, rfl, _, rfl, hw, revS_eq l⟩)
  exact ⟨wr, hw, CT.run (n207 _ _) (by simp only [List.nil_append, List.append_nil]; exact hr)⟩
theorem w154 (hft : M.FT = FT) (n206 : ∀ ars h, M.ext 206 ars h = none) (n207 : ∀ ars h, M.ext 207 ars h = none) (l : List Str) (hl : l ≠ []) (hn : l.length < 1000000) : Run M 154 [.vs (strs l) l.length cap] [] ⟨.sl 1 0 l.length 1 none, [some (.cells [] 9), some (.cells (strs l.reverse) 9)], []⟩ := by
  have h206 : CT M (fnV 206) [.vs (strs l) l.length cap] [] ⟨.sl 1 0 l.length 1 none, [some (.cells [] 9), some (.cells (strs l) 9)], []⟩ := CT.run (n206 _ _) (by simpa using w206 hft l hl hn)
  obtain ⟨wr, hw, h207⟩ := r207 (cap := none) hft n207 (h := [some (.cells [] 9), some (.cells (strs l) 9)]) (b := 1) (by simp) l hn
  have h207' : CT M (fnV 207) [.sl 1 0 l.length 1 none] [some (.cells [] 9), some (.cells (strs l) 9)] ⟨.tup [], [some (.cells [] 9), some (.cells (strs l.reverse) 9)], wr⟩ := h207
  refine run_of_W (by rw [hft]; exact ft154) (by simp) ?_
  unfold b154
  simp only [List.map_cons, List.map_nil, List.getElem?_cons_zero, List.getElem?_cons_succ, List.getElem?_nil, Option.getD_some, Option.getD_none]
  repeat' first | apply W.seq | apply SQn | apply W.region | apply WO.nil | apply W.block | apply W.ret | apply W.exit | apply W.skip | apply SQr | apply SQe | apply BQn | apply BQr | apply BQe | (apply BQo; exact rfl) | apply LQe | apply LQr | (apply W.condT; exact rfl) | (apply W.condF; exact rfl) | (apply W.cond; exact rfl; all_goals intro _) | (apply WO.ct; exact rfl; exact rfl; first | exact h206 | exact h207') | (apply WO.ctn; exact rfl; exact rfl; first | exact h206 | exact h207') | (apply WD.ct; exact rfl; exact rfl; exact rfl; first | exact h206 | exact h207') | (apply WO.clb; exact rfl; exact rfl; exact rfl; all_goals first | (intro h; exact absurd h (by decide)) | intro _) | (apply WO.cll; exact rfl; exact rfl; exact rfl) | (apply WO.pl; exact rfl; exact rfl) | (apply WO.pp; exact rfl; exact rfl)
  exact ⟨.inr rfl, rfl, _, rfl, rfl, rfl⟩

/-! Mirrored. -/
structure C71 (M : Mach) : Prop where
  ft : M.FT = FT
  c70 : ∀ rows (l : List Str) cap h, (∀ s ∈ l, s.length < 4611686018427387904) → l.length < 1000000 → M.ext 70 [.agg [.int .i64 rows, .vs (strs l) l.length cap]] h = some ⟨.int .i64 (imgE rows l), h, []⟩
  c154 : ∀ (l : List Str) cap h, l ≠ [] → l.length < 1000000 → M.ext 154 [.vs (strs l) l.length cap] h = some ⟨.sl h.length 0 l.length 1 none, h ++ [some (.cells (strs l.reverse) 9)], []⟩
theorem w71e (C : C71 M) (rows : Int) (l : List Str) (hL : ∀ s ∈ l, s.length < 4611686018427387904) (hl : l.length < 1000000) (hE : imgE rows l ≠ 0) : Run M 71 [.agg [.int .i64 rows, .vs (strs l) l.length cap]] [] ⟨.tup [.agg [.int .i64 0, .nilsl], .int .i64 (imgE rows l)], [], []⟩ := by
  have q70 := fun h => C.c70 rows l cap h hL hl
  refine run_of_W (by rw [C.ft]; exact ft71) (by simp) ?_
  unfold b71
  simp only [List.map_cons, List.map_nil, List.getElem?_cons_zero, List.getElem?_cons_succ, List.getElem?_nil, Option.getD_some, Option.getD_none]
  repeat' first | apply W.seq | apply SQn | apply W.region | apply WO.nil | apply W.block | apply W.ret | apply W.exit | apply W.skip | apply SQr | apply SQe | apply BQn | apply BQr | apply BQe | (apply BQo; exact rfl) | apply LQe | apply LQr | (apply W.drawro; exact rfl) | apply W.draw | apply WD.nil | (apply WD.gT; exact rfl) | (apply WD.gF; exact rfl) | (apply WD.sT; exact rfl) | (apply WD.sF; exact rfl) | (apply WD.sU; exact rfl) | (apply WD.pure1; exact rfl) | (apply WD.load1; exact rfl; exact rfl; exact rfl) | (apply WD.store1; exact rfl; exact rfl; exact rfl) | (apply WD.new1; exact rfl) | (apply WD.clb; exact rfl; exact rfl; exact rfl; exact rfl; all_goals first | (intro h; exact absurd h (by decide)) | intro _) | (apply WD.cl0; exact rfl; exact rfl; exact rfl; exact rfl) | (apply WD.cl1; exact rfl; exact rfl; exact rfl; exact rfl) | (apply W.condT; exact rfl) | (apply W.condF; exact rfl) | (apply W.cond; exact rfl; all_goals intro _) | (apply WO.neq; exact rfl; exact rfl; all_goals first | (intro _; exfalso; omega) | intro _) | (apply WO.cll; exact rfl; exact rfl; first | exact q70 _) | (apply WO.sneq; exact rfl; exact rfl; all_goals first | (intro h; exact absurd h (by decide)) | (intro h; exact absurd rfl h) | (intro h; contradiction) | intro _) | (apply WO.clb; exact rfl; exact rfl; exact rfl; all_goals first | (intro h; exact absurd h (by decide)) | intro _) | (apply WO.cll; exact rfl; exact rfl; exact rfl) | (apply WO.hlv; exact rfl; exact rfl; exact rfl) | (apply WO.hpv; exact rfl; exact rfl; exact rfl) | (apply WO.hnv; exact rfl; exact rfl; exact rfl) | (apply WO.pl; exact rfl; exact rfl) | (apply WO.pp; exact rfl; exact rfl)
  · exact ⟨.inr rfl, rfl, _, rfl, rfl, rfl⟩
theorem imgE_ne {rows : Int} {l : List Str} (hE : imgE rows l = 0) : l ≠ [] := by
  rintro rfl
  unfold imgE headE at hE
  cases ho : outI rows 1 64 <;> simp [ho] at hE
theorem w71 (C : C71 M) (rows : Int) (l : List Str) (hL : ∀ s ∈ l, s.length < 4611686018427387904) (hl : l.length < 1000000) (hE : imgE rows l = 0) : Run M 71 [.agg [.int .i64 rows, .vs (strs l) l.length cap]] [] ⟨.tup [.agg [.int .i64 rows, .sl 2 0 l.length 1 none], .int .i64 0], [some (.cells [.int .i64 rows, .vs (strs l) l.length cap] 24), some (.cells [.int .i64 rows, .sl 2 0 l.length 1 none] 24), some (.cells (strs l.reverse) 9)], []⟩ := by
  have q70 := fun h => C.c70 rows l cap h hL hl
  rw [hE] at q70
  have q154 := fun h => C.c154 l cap h (imgE_ne hE) hl
  refine run_of_W (by rw [C.ft]; exact ft71) (by simp) ?_
  unfold b71
  simp only [List.map_cons, List.map_nil, List.getElem?_cons_zero, List.getElem?_cons_succ, List.getElem?_nil, Option.getD_some, Option.getD_none]
  repeat' first | apply W.seq | apply SQn | apply W.region | apply WO.nil | apply W.block | apply W.ret | apply W.exit | apply W.skip | apply SQr | apply SQe | apply BQn | apply BQr | apply BQe | (apply BQo; exact rfl) | apply LQe | apply LQr | (apply W.drawro; exact rfl) | apply W.draw | apply WD.nil | (apply WD.gT; exact rfl) | (apply WD.gF; exact rfl) | (apply WD.sT; exact rfl) | (apply WD.sF; exact rfl) | (apply WD.sU; exact rfl) | (apply WD.pure1; exact rfl) | (apply WD.load1; exact rfl; exact rfl; exact rfl) | (apply WD.store1; exact rfl; exact rfl; exact rfl) | (apply WD.new1; exact rfl) | (apply WD.clb; exact rfl; exact rfl; exact rfl; exact rfl; all_goals first | (intro h; exact absurd h (by decide)) | intro _) | (apply WD.cl0; exact rfl; exact rfl; exact rfl; exact rfl) | (apply WD.cl1; exact rfl; exact rfl; exact rfl; exact rfl) | (apply W.condT; exact rfl) | (apply W.condF; exact rfl) | (apply W.cond; exact rfl; all_goals intro _) | (apply WO.neq; exact rfl; exact rfl; all_goals first | (intro _; exfalso; omega) | intro _) | (apply WO.cll; exact rfl; exact rfl; first | exact q70 _) | (apply WD.cl1; exact rfl; exact rfl; exact rfl; exact q154 _) | (apply WO.sneq; exact rfl; exact rfl; all_goals first | (intro h; exact absurd h (by decide)) | (intro h; exact absurd rfl h) | (intro h; contradiction) | intro _) | (apply WO.clb; exact rfl; exact rfl; exact rfl; all_goals first | (intro h; exact absurd h (by decide)) | intro _) | (apply WO.cll; exact rfl; exact rfl; exact rfl) | (apply WO.hlv; exact rfl; exact rfl; exact rfl) | (apply WO.hpv; exact rfl; exact rfl; exact rfl) | (apply WO.hnv; exact rfl; exact rfl; exact rfl) | (apply WO.pl; exact rfl; exact rfl) | (apply WO.pp; exact rfl; exact rfl)
  exact ⟨.inr rfl, rfl, _, rfl, rfl, rfl⟩
end Go.Ab.Ch5


/-
  Own work: images: the reference's mirrored image.
-/
namespace Go.Ab.Ch5
variable {M : Mach} {cap : Option Nat} {h : Heap} {b n : Nat}

theorem WO.sto {b off : Nat} {x y : IOpd} {l : List IOper} {pe : List AV} {lo : List (Nat × AV)} {hp : Heap} {df wr : List Nat} {c : List AV} {v : AV} {e : TypeId} {Q : StW → Prop} (hx : (St.mk pe lo hp df).opd x = some (.ptr b off)) (hy : (St.mk pe lo hp df).opd y = some v) (hb : hp.at b = some (.cells c e)) (hv : oneA v = true ∧ v.cells = some [v])
    (hn : off + 1 ≤ c.length) (h : WO M l ⟨⟨pe, lo, hp.put b (some (.cells (overwrite c off [v]) e)), df⟩, b :: wr⟩ Q) : WO M (⟨.no, .store 1 x y, none⟩ :: l) ⟨⟨pe, lo, hp, df⟩, wr⟩ Q := by
  refine WO.hnv (v := undefA) (h' := hp.put b (some (.cells (overwrite c off [v]) e))) (w' := [b]) ?_ rfl rfl h
  simp only [heapA, hx, hy, Option.bind_some, hv.2, hb]
  rw [if_pos ⟨rfl, hn, by simp [hv.1]⟩]
theorem OutW.one {hp : Heap} {o : AV} {acc : List Str} (h : OutW hp o acc) : oneA o = true ∧ o.cells = some [o] := by
  rcases h with ⟨_, rfl⟩ | ⟨c, _, rfl, _⟩ <;> exact ⟨rfl, rfl⟩
theorem OutW.put {hp : Heap} {o : AV} {acc : List Str} {k : Nat} {x : Option Blk} (h : OutW hp o acc) (hk : ∀ c n, o = .sl c 0 n 1 none → c ≠ k) : OutW (hp.put k x) o acc := by
  rcases h with h | ⟨c, h0, h1, h2⟩
  · exact .inl h
  · exact .inr ⟨c, h0, h1, at_else (hk c _ h1) h2⟩
theorem outw_end3 {hp : Heap} {o : AV} {acc : List Str} {rows : Int} (h : OutW hp o acc) : OutW (if (AV.agg [.int .i64 rows, o]).top ≤ 0 then [] else hp) o acc := by
  rcases h with ⟨h1, rfl⟩ | ⟨c, h0, rfl, h2⟩
  · exact .inl ⟨h1, rfl⟩
  · refine .inr ⟨c, h0, rfl, ?_⟩
    rw [if_neg (by simp [AV.top, topL])]
    exact h2
theorem rev_snoc {l : List Str} {i : Nat} (h : i < l.length) : (l.drop (i + 1)).reverse ++ [l[i]!] = (l.drop i).reverse := by
  rw [List.drop_eq_getElem_cons h, List.reverse_cons, getElem!_pos l i h]

theorem loop74 (rows : Int) (l : List Str) (hl : l.length < 1000000) (a0 : AV) {Q : Ex → StW → Prop} : ∀ (i : Nat), i ≤ l.length → ∀ (o : AV) (acc : List Str) (hp : Heap) (lo : List (Nat × AV)) (wr : List Nat), acc = (l.drop i).reverse → OutW hp o acc → hp.at 0 = some (.cells [.int .i64 rows, .vs (strs l) l.length cap] 25) → hp.at 1 = some (.cells [.int .i64 0, .nilsl] 25) → hp.at 2 = some (.cells [.int .i64 rows, o] 25) → (∀ c n, o = .sl c 0 n 1 none → 3 ≤ c) → 3 ≤ hp.length →
    (∀ o hp lo wr, OutW hp o l.reverse → hp.at 1 = some (.cells [.int .i64 0, .nilsl] 25) → hp.at 2 = some (.cells [.int .i64 rows, o] 25) → (∀ c n, o = .sl c 0 n 1 none → 3 ≤ c) → Q (.exit 0) ⟨⟨[a0, .ptr 0 0, .ptr 1 0, .ptr 2 0, .int .i64 (-1)], lo, hp, []⟩, wr⟩) →
    W M (.loop b74_0) ⟨⟨[a0, .ptr 0 0, .ptr 1 0, .ptr 2 0, .int .i64 ((i : Int) - 1)], lo, hp, []⟩, wr⟩ Q := by
  intro i
  induction i with
  | zero =>
    intro hi o acc hp lo wr hacc ho h0 h1 h2 hne hlen hQ
    rw [List.drop_zero] at hacc
    subst hacc
    refine W.loop ?_
    unfold b74_0
    repeat' first | apply W.seq | apply SQn | apply W.region | apply WO.nil | apply W.block | apply W.ret | apply W.exit | apply W.skip | apply SQr | apply SQe | apply BQn | apply BQr | apply BQe | (apply BQo; exact rfl) | apply LQe | apply LQr | (apply W.drawro; exact rfl) | apply W.draw | apply WD.nil | (apply WD.gT; exact rfl) | (apply WD.gF; exact rfl) | (apply WD.sT; exact rfl) | (apply WD.sF; exact rfl) | (apply WD.sU; exact rfl) | (apply WD.pure1; exact rfl) | (apply WD.load1; exact rfl; exact rfl; exact rfl) | (apply WD.store1; exact rfl; exact rfl; exact rfl) | (apply WD.new1; exact rfl) | (apply WD.app; exact rfl; exact rfl; intro _) | (apply W.condT; exact rfl) | (apply W.condF; exact rfl) | (apply W.cond; exact rfl; all_goals intro _) | (apply WO.geq; exact rfl; exact rfl; all_goals first | (intro _; exfalso; omega) | intro _) | (apply WO.sub; exact rfl; exact rfl; omega) | (apply WO.iav; exact rfl; exact rfl; omega) | (apply WO.ias; exact rfl; exact rfl; omega) | (apply WO.lda; exact rfl; exact fun _ => rfl; (first | omega | (simp only [List.length_set]; omega) | (simp; omega)); decide; exact rfl; case ia => infer_instance) | (apply WO.lsa; exact rfl; (first | exact rfl | assumption | exact at_new | (apply at_old; assumption) | (apply at_put; first | assumption | (simp only [put_length]; assumption))); exact fun _ => rfl; (first | omega | (simp only [List.length_set]; omega) | (simp; omega)); decide; exact rfl; case ia => infer_instance) | (apply WO.sta; exact rfl; exact rfl; (first | exact rfl | assumption | exact at_new | (apply at_old; assumption) | (apply at_put; first | assumption | (simp only [put_length]; assumption))); exact fun _ => rfl; (first | omega | (simp only [List.length_set]; omega) | (simp; omega)); exact ⟨rfl, by decide, rfl⟩; exact rfl; case ia => infer_instance) | (apply WO.ldf; exact rfl; exact fun _ => rfl; (first | omega | (simp only [List.length_set]; omega) | (simp; omega)); decide; exact rfl; case ia => infer_instance) | (apply WO.lsf; exact rfl; (first | exact rfl | assumption | exact at_new | (apply at_old; assumption) | (apply at_put; first | assumption | (simp only [put_length]; assumption))); exact fun _ => rfl; (first | omega | (simp only [List.length_set]; omega) | (simp; omega)); decide; exact rfl; case ia => infer_instance) | (apply WO.stf; exact rfl; exact rfl; (first | exact rfl | assumption | exact at_new | (apply at_old; assumption) | (apply at_put; first | assumption | (simp only [put_length]; assumption))); exact fun _ => rfl; (first | omega | (simp only [List.length_set]; omega) | (simp; omega)); exact ⟨rfl, by decide, rfl⟩; exact rfl; case ia => infer_instance) | (apply WO.hlv; exact rfl; exact rfl; exact rfl) | (apply WO.hpv; exact rfl; exact rfl; exact rfl) | (apply WO.hnv; exact rfl; exact rfl; exact rfl) | (apply WO.pl; exact rfl; exact rfl) | (apply WO.pp; exact rfl; exact rfl)
    exact hQ _ _ _ _ ho h1 h2 hne
  | succ i ih =>
    intro hi o acc hp lo wr hacc ho h0 h1 h2 hne hlen hQ
    have hla : acc.length < 1000000 := by rw [hacc]; simp; omega
    have f1 : (((i + 1 : Nat) : Int) - 1).toNat = i := by omega
    have hsn := rev_snoc (l := l) (i := i) (by omega)
    refine W.loop ?_
    unfold b74_0
    repeat' first | (apply WO.ldb; exact rfl; exact h2; exact rfl) | (apply WO.ldb; exact rfl; exact h0; exact rfl) | apply W.seq | apply SQn | apply W.region | apply WO.nil | apply W.block | apply W.ret | apply W.exit | apply W.skip | apply SQr | apply SQe | apply BQn | apply BQr | apply BQe | (apply BQo; exact rfl) | apply LQe | apply LQr | (apply W.drawro; exact rfl) | apply W.draw | apply WD.nil | (apply WD.gT; exact rfl) | (apply WD.gF; exact rfl) | (apply WD.sT; exact rfl) | (apply WD.sF; exact rfl) | (apply WD.sU; exact rfl) | (apply WD.pure1; exact rfl) | (apply WD.load1; exact rfl; exact rfl; exact rfl) | (apply WD.store1; exact rfl; exact rfl; exact rfl) | (apply WD.new1; exact rfl) | (apply WD.app; exact rfl; exact rfl; intro _) | (apply W.condT; exact rfl) | (apply W.condF; exact rfl) | (apply W.cond; exact rfl; all_goals intro _) | (apply WO.geq; exact rfl; exact rfl; all_goals first | (intro _; exfalso; omega) | intro _) | (apply WO.sub; exact rfl; exact rfl; omega) | (refine OutW.push ho rfl rfl hla (fun H w' o' ho' hk hk3 hk4 => ?_)) | (apply WO.sto; exact rfl; exact rfl; exact hk 2 _ (fun c hc => by have := hne _ _ hc; omega) h2; exact ho'.one; exact Nat.le_refl _) | (apply WO.iav; exact rfl; exact rfl; omega) | (apply WO.ias; exact rfl; exact rfl; omega) | (apply WO.lda; exact rfl; exact fun _ => rfl; (first | omega | (simp only [List.length_set]; omega) | (simp; omega)); decide; exact rfl; case ia => infer_instance) | (apply WO.lsa; exact rfl; (first | exact rfl | assumption | exact at_new | (apply at_old; assumption) | (apply at_put; first | assumption | (simp only [put_length]; assumption))); exact fun _ => rfl; (first | omega | (simp only [List.length_set]; omega) | (simp; omega)); decide; exact rfl; case ia => infer_instance) | (apply WO.sta; exact rfl; exact rfl; (first | exact rfl | assumption | exact at_new | (apply at_old; assumption) | (apply at_put; first | assumption | (simp only [put_length]; assumption))); exact fun _ => rfl; (first | omega | (simp only [List.length_set]; omega) | (simp; omega)); exact ⟨rfl, by decide, rfl⟩; exact rfl; case ia => infer_instance) | (apply WO.ldf; exact rfl; exact fun _ => rfl; (first | omega | (simp only [List.length_set]; omega) | (simp; omega)); decide; exact rfl; case ia => infer_instance) | (apply WO.lsf; exact rfl; (first | exact rfl | assumption | exact at_new | (apply at_old; assumption) | (apply at_put; first | assumption | (simp only [put_length]; assumption))); exact fun _ => rfl; (first | omega | (simp only [List.length_set]; omega) | (simp; omega)); decide; exact rfl; case ia => infer_instance) | (apply WO.stf; exact rfl; exact rfl; (first | exact rfl | assumption | exact at_new | (apply at_old; assumption) | (apply at_put; first | assumption | (simp only [put_length]; assumption))); exact fun _ => rfl; (first | omega | (simp only [List.length_set]; omega) | (simp; omega)); exact ⟨rfl, by decide, rfl⟩; exact rfl; case ia => infer_instance) | (apply WO.hlv; exact rfl; exact rfl; exact rfl) | (apply WO.hpv; exact rfl; exact rfl; exact rfl) | (apply WO.hnv; exact rfl; exact rfl; exact rfl) | (apply WO.pl; exact rfl; exact rfl) | (apply WO.pp; exact rfl; exact rfl)
    rw [f1, hacc, hsn] at ho'
    have hn2 : ∀ c n, o' = .sl c 0 n 1 none → 3 ≤ c := fun c n hc => Nat.le_trans hlen (hk3 c n hc)
    have g2 : H.at 2 = some (.cells [.int .i64 rows, o] 25) := hk 2 _ (fun c hc => by have := hne _ _ hc; omega) h2
    refine LQn ?_
    rw [show ((i + 1 : Nat) : Int) - 1 - 1 = (i : Int) - 1 by omega]
    exact ih (by omega) o' _ _ _ _ rfl (ho'.put fun c n hc => by have := hn2 c n hc; omega) (at_else (by decide) (hk 0 _ (fun c hc => by have := hne _ _ hc; omega) h0)) (at_else (by decide) (hk 1 _ (fun c hc => by have := hne _ _ hc; omega) h1)) (at_put (at_lt g2)) hn2 (by rw [put_length]; omega) hQ
theorem w74 (hft : M.FT = FT) (rows : Int) (l : List Str) (hl : l.length < 1000000) : ∃ o hh, OutW hh o l.reverse ∧ Run M 74 [.agg [.int .i64 rows, .vs (strs l) l.length cap]] [] ⟨.agg [.int .i64 rows, o], hh, []⟩ := by
  obtain ⟨v, hh, ⟨o, rfl, ho⟩, hr⟩ := run_ofE (M := M) (f := 74) (ars := [.agg [.int .i64 rows, .vs (strs l) l.length cap]]) (P := fun v hh => ∃ o, v = .agg [.int .i64 rows, o] ∧ OutW hh o l.reverse) (by rw [hft]; exact ft74) (by simp) (by
    unfold b74
    simp only [List.map_cons, List.map_nil, List.getElem?_cons_zero, List.getElem?_cons_succ, List.getElem?_nil, Option.getD_some, Option.getD_none]
    repeat' first | apply W.seq | apply SQn | apply W.region | apply WO.nil | apply W.block | apply W.ret | apply W.exit | apply W.skip | apply SQr | apply SQe | apply BQn | apply BQr | apply BQe | (apply BQo; exact rfl) | apply LQe | apply LQr | (apply W.condT; exact rfl) | (apply W.condF; exact rfl) | (apply W.cond; exact rfl; all_goals intro _) | (apply WO.sub; exact rfl; exact rfl; omega) | (apply WO.hlv; exact rfl; exact rfl; exact rfl) | (apply WO.hpv; exact rfl; exact rfl; exact rfl) | (apply WO.hnv; exact rfl; exact rfl; exact rfl) | (apply WO.pl; exact rfl; exact rfl) | (apply WO.pp; exact rfl; exact rfl)
    refine loop74 (cap := cap) rows l hl _ l.length (Nat.le_refl _) .nilsl [] _ _ _ (by simp) (.inl ⟨rfl, rfl⟩) rfl rfl rfl (by intro c n hc; cases hc) (Nat.le_refl _) (fun o hp lo wr ho h1 h2 hne => ?_)
    have hone : [AV.int .i64 rows, o].all oneA = true := by rw [List.all_cons, List.all_cons, ho.one.1]; rfl
    repeat' first | (apply WO.ldb; exact rfl; exact h2; exact rfl) | (apply WO.stw; exact rfl; exact rfl; exact h1; exact ⟨rfl, rfl, hone⟩) | apply W.seq | apply SQn | apply W.region | apply WO.nil | apply W.block | apply W.ret | apply W.exit | apply W.skip | apply SQr | apply SQe | apply BQn | apply BQr | apply BQe | (apply BQo; exact rfl) | apply LQe | apply LQr | (apply W.condT; exact rfl) | (apply W.condF; exact rfl) | (apply W.cond; exact rfl; all_goals intro _) | (apply WO.sub; exact rfl; exact rfl; omega) | (apply WO.hlv; exact rfl; exact rfl; exact rfl) | (apply WO.hpv; exact rfl; exact rfl; exact rfl) | (apply WO.hnv; exact rfl; exact rfl; exact rfl) | (apply WO.pl; exact rfl; exact rfl) | (apply WO.pp; exact rfl; exact rfl)
    refine ⟨.inr rfl, rfl, [.agg [.int .i64 rows, o]], ?_, o, rfl, outw_end3 (ho.put fun c n hc => by have := hne c n hc; omega)⟩
    simp only [resultsA, St.opd, readAt]
    simp only [List.getElem?_cons_succ, List.getElem?_cons_zero, Option.bind_some, at_put (at_lt h1)]
    rfl)
  exact ⟨o, hh, ho, hr⟩
end Go.Ab.Ch5


/-
  Own work: images: the reference's stretched image.
-/
namespace Go.Ab.Ch5
variable {M : Mach} {cap : Option Nat} {h : Heap} {b n : Nat}

def strL (t : Nat) (l : List Str) : List Str := l.flatMap fun s => List.replicate t s
theorem strL_take {t : Nat} {l : List Str} {i : Nat} (h : i < l.length) : strL t (l.take (i + 1)) = strL t (l.take i) ++ List.replicate t l[i]! := by
  rw [List.take_add_one, List.getElem?_eq_getElem h, strL, strL, List.flatMap_append, getElem!_pos l i h]
  simp
theorem strL_len (t : Nat) : ∀ l : List Str, (strL t l).length = l.length * t
  | [] => by simp [strL]
  | s :: l => by
    have := strL_len t l
    simp only [strL, List.flatMap_cons, List.length_append, List.length_replicate] at this ⊢
    rw [this, List.length_cons, Nat.add_mul]
    omega
theorem strL_lt {t : Nat} {l : List Str} {i : Nat} (hi : i < l.length) (hB : l.length * t < 1000000) : (strL t (l.take i)).length + t < 1000000 := by
  rw [strL_len, List.length_take, Nat.min_eq_left (by omega)]
  have : (i + 1) * t ≤ l.length * t := Nat.mul_le_mul_right _ (by omega)
  rw [Nat.add_mul] at this
  omega

theorem loop75_0 (rows : Int) (t : Nat) (l : List Str) (i : Nat) (hi : i < l.length) (acc0 : List Str) (hB : acc0.length + t < 1000000) (a0 : AV) {Q : Ex → StW → Prop} : ∀ (r k : Nat), k + r = t → ∀ (o : AV) (acc : List Str) (hp : Heap) (lo : List (Nat × AV)) (wr : List Nat), acc = acc0 ++ List.replicate k l[i]! → OutW hp o acc → hp.at 0 = some (.cells [.int .i64 rows, .vs (strs l) l.length cap] 25) → hp.at 1 = some (.cells [.int .i64 0, .nilsl] 25) → hp.at 2 = some (.cells [.int .i64 rows, o] 25) → (∀ c n, o = .sl c 0 n 1 none → 3 ≤ c) → 3 ≤ hp.length →
    (∀ o hp lo wr, OutW hp o (acc0 ++ List.replicate t l[i]!) → hp.at 0 = some (.cells [.int .i64 rows, .vs (strs l) l.length cap] 25) → hp.at 1 = some (.cells [.int .i64 0, .nilsl] 25) → hp.at 2 = some (.cells [.int .i64 rows, o] 25) → (∀ c n, o = .sl c 0 n 1 none → 3 ≤ c) → 3 ≤ hp.length → Q (.exit 2) ⟨⟨[a0, .int .i64 t, .ptr 0 0, .ptr 1 0, .ptr 2 0, .int .i64 i, .int .i64 t], lo, hp, []⟩, wr⟩) →
    W M (.loop b75_0) ⟨⟨[a0, .int .i64 t, .ptr 0 0, .ptr 1 0, .ptr 2 0, .int .i64 i, .int .i64 k], lo, hp, []⟩, wr⟩ Q := by
  intro r
  induction r with
  | zero =>
    intro k hk o acc hp lo wr hacc ho h0 h1 h2 hne hlen hQ
    obtain rfl : k = t := by omega
    subst hacc
    refine W.loop ?_
    unfold b75_0
    repeat' first | apply W.seq | apply SQn | apply W.region | apply WO.nil | apply W.block | apply W.ret | apply W.exit | apply W.skip | apply SQr | apply SQe | apply BQn | apply BQr | apply BQe | (apply BQo; exact rfl) | apply LQe | apply LQr | (apply W.drawro; exact rfl) | apply W.draw | apply WD.nil | (apply WD.gT; exact rfl) | (apply WD.gF; exact rfl) | (apply WD.sT; exact rfl) | (apply WD.sF; exact rfl) | (apply WD.sU; exact rfl) | (apply WD.pure1; exact rfl) | (apply WD.load1; exact rfl; exact rfl; exact rfl) | (apply WD.store1; exact rfl; exact rfl; exact rfl) | (apply WD.new1; exact rfl) | (apply WD.app; exact rfl; exact rfl; intro _) | (apply W.condT; exact rfl) | (apply W.condF; exact rfl) | (apply W.cond; exact rfl; all_goals intro _) | (apply WO.lss; exact rfl; exact rfl; all_goals first | (intro _; exfalso; omega) | intro _) | (apply WO.add; exact rfl; exact rfl; omega) | (apply WO.iav; exact rfl; exact rfl; omega) | (apply WO.ias; exact rfl; exact rfl; omega) | (apply WO.lda; exact rfl; exact fun _ => rfl; (first | omega | (simp only [List.length_set]; omega) | (simp; omega)); decide; exact rfl; case ia => infer_instance) | (apply WO.lsa; exact rfl; (first | exact rfl | assumption | exact at_new | (apply at_old; assumption) | (apply at_put; first | assumption | (simp only [put_length]; assumption))); exact fun _ => rfl; (first | omega | (simp only [List.length_set]; omega) | (simp; omega)); decide; exact rfl; case ia => infer_instance) | (apply WO.sta; exact rfl; exact rfl; (first | exact rfl | assumption | exact at_new | (apply at_old; assumption) | (apply at_put; first | assumption | (simp only [put_length]; assumption))); exact fun _ => rfl; (first | omega | (simp only [List.length_set]; omega) | (simp; omega)); exact ⟨rfl, by decide, rfl⟩; exact rfl; case ia => infer_instance) | (apply WO.ldf; exact rfl; exact fun _ => rfl; (first | omega | (simp only [List.length_set]; omega) | (simp; omega)); decide; exact rfl; case ia => infer_instance) | (apply WO.lsf; exact rfl; (first | exact rfl | assumption | exact at_new | (apply at_old; assumption) | (apply at_put; first | assumption | (simp only [put_length]; assumption))); exact fun _ => rfl; (first | omega | (simp only [List.length_set]; omega) | (simp; omega)); decide; exact rfl; case ia => infer_instance) | (apply WO.stf; exact rfl; exact rfl; (first | exact rfl | assumption | exact at_new | (apply at_old; assumption) | (apply at_put; first | assumption | (simp only [put_length]; assumption))); exact fun _ => rfl; (first | omega | (simp only [List.length_set]; omega) | (simp; omega)); exact ⟨rfl, by decide, rfl⟩; exact rfl; case ia => infer_instance) | (apply WO.hlv; exact rfl; exact rfl; exact rfl) | (apply WO.hpv; exact rfl; exact rfl; exact rfl) | (apply WO.hnv; exact rfl; exact rfl; exact rfl) | (apply WO.pl; exact rfl; exact rfl) | (apply WO.pp; exact rfl; exact rfl)
    exact hQ _ _ _ _ ho h0 h1 h2 hne hlen
  | succ r ih =>
    intro k hk o acc hp lo wr hacc ho h0 h1 h2 hne hlen hQ
    have hla : acc.length < 1000000 := by rw [hacc]; simp; omega
    have f1 : ((i : Int)).toNat = i := Int.toNat_natCast i
    refine W.loop ?_
    unfold b75_0
    repeat' first | (apply WO.ldb; exact rfl; exact h2; exact rfl) | (apply WO.ldb; exact rfl; exact h0; exact rfl) | apply W.seq | apply SQn | apply W.region | apply WO.nil | apply W.block | apply W.ret | apply W.exit | apply W.skip | apply SQr | apply SQe | apply BQn | apply BQr | apply BQe | (apply BQo; exact rfl) | apply LQe | apply LQr | (apply W.drawro; exact rfl) | apply W.draw | apply WD.nil | (apply WD.gT; exact rfl) | (apply WD.gF; exact rfl) | (apply WD.sT; exact rfl) | (apply WD.sF; exact rfl) | (apply WD.sU; exact rfl) | (apply WD.pure1; exact rfl) | (apply WD.load1; exact rfl; exact rfl; exact rfl) | (apply WD.store1; exact rfl; exact rfl; exact rfl) | (apply WD.new1; exact rfl) | (apply WD.app; exact rfl; exact rfl; intro _) | (apply W.condT; exact rfl) | (apply W.condF; exact rfl) | (apply W.cond; exact rfl; all_goals intro _) | (apply WO.lss; exact rfl; exact rfl; all_goals first | (intro _; exfalso; omega) | intro _) | (apply WO.add; exact rfl; exact rfl; omega) | (refine OutW.push ho rfl rfl hla (fun H w' o' ho' hk hk3 hk4 => ?_)) | (apply WO.sto; exact rfl; exact rfl; exact hk 2 _ (fun c hc => by have := hne _ _ hc; omega) h2; exact ho'.one; exact Nat.le_refl _) | (apply WO.iav; exact rfl; exact rfl; omega) | (apply WO.ias; exact rfl; exact rfl; omega) | (apply WO.lda; exact rfl; exact fun _ => rfl; (first | omega | (simp only [List.length_set]; omega) | (simp; omega)); decide; exact rfl; case ia => infer_instance) | (apply WO.lsa; exact rfl; (first | exact rfl | assumption | exact at_new | (apply at_old; assumption) | (apply at_put; first | assumption | (simp only [put_length]; assumption))); exact fun _ => rfl; (first | omega | (simp only [List.length_set]; omega) | (simp; omega)); decide; exact rfl; case ia => infer_instance) | (apply WO.sta; exact rfl; exact rfl; (first | exact rfl | assumption | exact at_new | (apply at_old; assumption) | (apply at_put; first | assumption | (simp only [put_length]; assumption))); exact fun _ => rfl; (first | omega | (simp only [List.length_set]; omega) | (simp; omega)); exact ⟨rfl, by decide, rfl⟩; exact rfl; case ia => infer_instance) | (apply WO.ldf; exact rfl; exact fun _ => rfl; (first | omega | (simp only [List.length_set]; omega) | (simp; omega)); decide; exact rfl; case ia => infer_instance) | (apply WO.lsf; exact rfl; (first | exact rfl | assumption | exact at_new | (apply at_old; assumption) | (apply at_put; first | assumption | (simp only [put_length]; assumption))); exact fun _ => rfl; (first | omega | (simp only [List.length_set]; omega) | (simp; omega)); decide; exact rfl; case ia => infer_instance) | (apply WO.stf; exact rfl; exact rfl; (first | exact rfl | assumption | exact at_new | (apply at_old; assumption) | (apply at_put; first | assumption | (simp only [put_length]; assumption))); exact fun _ => rfl; (first | omega | (simp only [List.length_set]; omega) | (simp; omega)); exact ⟨rfl, by decide, rfl⟩; exact rfl; case ia => infer_instance) | (apply WO.hlv; exact rfl; exact rfl; exact rfl) | (apply WO.hpv; exact rfl; exact rfl; exact rfl) | (apply WO.hnv; exact rfl; exact rfl; exact rfl) | (apply WO.pl; exact rfl; exact rfl) | (apply WO.pp; exact rfl; exact rfl)
    rw [f1, hacc, List.append_assoc, ← List.replicate_succ'] at ho'
    have hn2 : ∀ c n, o' = .sl c 0 n 1 none → 3 ≤ c := fun c n hc => Nat.le_trans hlen (hk3 c n hc)
    have g2 : H.at 2 = some (.cells [.int .i64 rows, o] 25) := hk 2 _ (fun c hc => by have := hne _ _ hc; omega) h2
    refine LQn ?_
    exact ih (k + 1) (by omega) o' _ _ _ _ rfl (ho'.put fun c n hc => by have := hn2 c n hc; omega) (at_else (by decide) (hk 0 _ (fun c hc => by have := hne _ _ hc; omega) h0)) (at_else (by decide) (hk 1 _ (fun c hc => by have := hne _ _ hc; omega) h1)) (at_put (at_lt g2)) hn2 (by rw [put_length]; omega) hQ
theorem loop75_1 (rows : Int) (t : Nat) (l : List Str) (hl : l.length < 1000000) (hB : l.length * t < 1000000) (a0 : AV) {Q : Ex → StW → Prop} : ∀ (r i : Nat), i + r = l.length → ∀ (o a6 : AV) (acc : List Str) (hp : Heap) (lo : List (Nat × AV)) (wr : List Nat), acc = strL t (l.take i) → OutW hp o acc → hp.at 0 = some (.cells [.int .i64 rows, .vs (strs l) l.length cap] 25) → hp.at 1 = some (.cells [.int .i64 0, .nilsl] 25) → hp.at 2 = some (.cells [.int .i64 rows, o] 25) → (∀ c n, o = .sl c 0 n 1 none → 3 ≤ c) → 3 ≤ hp.length →
    (∀ o a6 hp lo wr, OutW hp o (strL t l) → hp.at 1 = some (.cells [.int .i64 0, .nilsl] 25) → hp.at 2 = some (.cells [.int .i64 rows, o] 25) → (∀ c n, o = .sl c 0 n 1 none → 3 ≤ c) → Q (.exit 0) ⟨⟨[a0, .int .i64 t, .ptr 0 0, .ptr 1 0, .ptr 2 0, .int .i64 l.length, a6], lo, hp, []⟩, wr⟩) →
    W M (.loop b75_1) ⟨⟨[a0, .int .i64 t, .ptr 0 0, .ptr 1 0, .ptr 2 0, .int .i64 i, a6], lo, hp, []⟩, wr⟩ Q := by
  intro r
  induction r with
  | zero =>
    intro i hi o a6 acc hp lo wr hacc ho h0 h1 h2 hne hlen hQ
    obtain rfl : i = l.length := by omega
    rw [List.take_length] at hacc
    subst hacc
    refine W.loop ?_
    unfold b75_1
    repeat' first | (apply WO.ldb; exact rfl; exact h0; exact rfl) | apply W.seq | apply SQn | apply W.region | apply WO.nil | apply W.block | apply W.ret | apply W.exit | apply W.skip | apply SQr | apply SQe | apply BQn | apply BQr | apply BQe | (apply BQo; exact rfl) | apply LQe | apply LQr | (apply W.condT; exact rfl) | (apply W.condF; exact rfl) | (apply W.cond; exact rfl; all_goals intro _) | (apply WO.lss; exact rfl; exact rfl; all_goals first | (intro _; exfalso; omega) | intro _) | (apply WO.add; exact rfl; exact rfl; omega) | (apply WO.hlv; exact rfl; exact rfl; exact rfl) | (apply WO.hpv; exact rfl; exact rfl; exact rfl) | (apply WO.hnv; exact rfl; exact rfl; exact rfl) | (apply WO.pl; exact rfl; exact rfl) | (apply WO.pp; exact rfl; exact rfl)
    exact hQ _ _ _ _ _ ho h1 h2 hne
  | succ r ih =>
    intro i hi o a6 acc hp lo wr hacc ho h0 h1 h2 hne hlen hQ
    refine W.loop ?_
    unfold b75_1
    repeat' first | (apply WO.ldb; exact rfl; exact h0; exact rfl) | apply W.seq | apply SQn | apply W.region | apply WO.nil | apply W.block | apply W.ret | apply W.exit | apply W.skip | apply SQr | apply SQe | apply BQn | apply BQr | apply BQe | (apply BQo; exact rfl) | apply LQe | apply LQr | (apply W.condT; exact rfl) | (apply W.condF; exact rfl) | (apply W.cond; exact rfl; all_goals intro _) | (apply WO.lss; exact rfl; exact rfl; all_goals first | (intro _; exfalso; omega) | intro _) | (apply WO.add; exact rfl; exact rfl; omega) | (apply WO.hlv; exact rfl; exact rfl; exact rfl) | (apply WO.hpv; exact rfl; exact rfl; exact rfl) | (apply WO.hnv; exact rfl; exact rfl; exact rfl) | (apply WO.pl; exact rfl; exact rfl) | (apply WO.pp; exact rfl; exact rfl)
    refine loop75_0 (cap := cap) rows t l i (by omega) (strL t (l.take i)) (strL_lt (by omega) hB) a0 t 0 (by omega) o acc hp _ _ (by rw [hacc]; simp) ho h0 h1 h2 hne hlen (fun o hp lo wr ho h0 h1 h2 hne hlen => ?_)
    repeat' first | apply W.seq | apply SQn | apply W.region | apply WO.nil | apply W.block | apply W.ret | apply W.exit | apply W.skip | apply SQr | apply SQe | apply BQn | apply BQr | apply BQe | (apply BQo; exact rfl) | apply LQe | apply LQr | (apply W.condT; exact rfl) | (apply W.condF; exact rfl) | (apply W.cond; exact rfl; all_goals intro _) | (apply WO.lss; exact rfl; exact rfl; all_goals first | (intro _; exfalso; omega) | intro _) | (apply WO.add; exact rfl; exact rfl; omega) | (apply WO.hlv; exact rfl; exact rfl; exact rfl) | (apply WO.hpv; exact rfl; exact rfl; exact rfl) | (apply WO.hnv; exact rfl; exact rfl; exact rfl) | (apply WO.pl; exact rfl; exact rfl) | (apply WO.pp; exact rfl; exact rfl)
    rw [← strL_take (by omega)] at ho
    exact LQn (ih (i + 1) (by omega) o _ _ hp _ _ rfl ho h0 h1 h2 hne hlen hQ)
theorem w75 (hft : M.FT = FT) (rows : Int) (t : Nat) (l : List Str) (hl : l.length < 1000000) (hB : l.length * t < 1000000) : ∃ o hh, OutW hh o (strL t l) ∧ Run M 75 [.agg [.int .i64 rows, .vs (strs l) l.length cap], .int .i64 t] [] ⟨.agg [.int .i64 rows, o], hh, []⟩ := by
  obtain ⟨v, hh, ⟨o, rfl, ho⟩, hr⟩ := run_ofE (M := M) (f := 75) (ars := [.agg [.int .i64 rows, .vs (strs l) l.length cap], .int .i64 t]) (P := fun v hh => ∃ o, v = .agg [.int .i64 rows, o] ∧ OutW hh o (strL t l)) (by rw [hft]; exact ft75) (by simp) (by
    unfold b75
    simp only [List.map_cons, List.map_nil, List.getElem?_cons_zero, List.getElem?_cons_succ, List.getElem?_nil, Option.getD_some, Option.getD_none]
    repeat' first | apply W.seq | apply SQn | apply W.region | apply WO.nil | apply W.block | apply W.ret | apply W.exit | apply W.skip | apply SQr | apply SQe | apply BQn | apply BQr | apply BQe | (apply BQo; exact rfl) | apply LQe | apply LQr | (apply W.condT; exact rfl) | (apply W.condF; exact rfl) | (apply W.cond; exact rfl; all_goals intro _) | (apply WO.hlv; exact rfl; exact rfl; exact rfl) | (apply WO.hpv; exact rfl; exact rfl; exact rfl) | (apply WO.hnv; exact rfl; exact rfl; exact rfl) | (apply WO.pl; exact rfl; exact rfl) | (apply WO.pp; exact rfl; exact rfl)
    refine loop75_1 (cap := cap) rows t l hl hB _ l.length 0 (by omega) .nilsl _ [] _ _ _ (by simp [strL]) (.inl ⟨rfl, rfl⟩) rfl rfl rfl (by intro c n hc; cases hc) (Nat.le_refl _) (fun o a6 hp lo wr ho h1 h2 hne => ?_)
    have hone : [AV.int .i64 rows, o].all oneA = true := by rw [List.all_cons, List.all_cons, ho.one.1]; rfl
    repeat' first | (apply WO.ldb; exact rfl; exact h2; exact rfl) | (apply WO.stw; exact rfl; exact rfl; exact h1; exact ⟨rfl, rfl, hone⟩) | apply W.seq | apply SQn | apply W.region | apply WO.nil | apply W.block | apply W.ret | apply W.exit | apply W.skip | apply SQr | apply SQe | apply BQn | apply BQr | apply BQe | (apply BQo; exact rfl) | apply LQe | apply LQr | (apply W.condT; exact rfl) | (apply W.condF; exact rfl) | (apply W.cond; exact rfl; all_goals intro _) | (apply WO.hlv; exact rfl; exact rfl; exact rfl) | (apply WO.hpv; exact rfl; exact rfl; exact rfl) | (apply WO.hnv; exact rfl; exact rfl; exact rfl) | (apply WO.pl; exact rfl; exact rfl) | (apply WO.pp; exact rfl; exact rfl)
    refine ⟨.inr rfl, rfl, [.agg [.int .i64 rows, o]], ?_, o, rfl, outw_end3 (ho.put fun c n hc => by have := hne c n hc; omega)⟩
    simp only [resultsA, St.opd, readAt]
    simp only [List.getElem?_cons_succ, List.getElem?_cons_zero, Option.bind_some, at_put (at_lt h1)]
    rfl)
  exact ⟨o, hh, ho, hr⟩

/-! math/bits.Mul of one and a small number. -/
theorem u64_and {a : Int} (h : 0 ≤ a ∧ a < 4294967296) : (BitVec.ofInt 64 a &&& BitVec.ofInt 64 4294967295).toNat = a.toNat := by
  obtain ⟨k, rfl⟩ := Int.eq_ofNat_of_zero_le h.1
  rw [BitVec.toNat_and]
  have h1 : (BitVec.ofInt 64 (k : Int)).toNat = k := by
    rw [BitVec.ofInt_natCast, BitVec.toNat_ofNat]
    omega
  have h2 : (BitVec.ofInt 64 (4294967295 : Int)).toNat = 2 ^ 32 - 1 := by decide
  rw [h1, h2, Nat.and_two_pow_sub_one_eq_mod]
  simp
  omega
theorem WO.and32 {t : Nat} {x : IOpd} {l : List IOper} {pe : List AV} {lo : List (Nat × AV)} {hp : Heap} {df wr : List Nat} {a : Int} {Q : StW → Prop} (hx : (St.mk pe lo hp df).opd x = some (.int .u64 a)) (hr : 0 ≤ a ∧ a < 4294967296)
    (h : WO M l ⟨⟨pe, (t, .int .u64 a) :: lo, hp, df⟩, wr⟩ Q) : WO M (⟨.l t, .bin .and x (.c (.int .u64 4294967295)), none⟩ :: l) ⟨⟨pe, lo, hp, df⟩, wr⟩ Q := by
  refine WO.pl (v := .int .u64 a) ?_ rfl h
  have e : (St.mk pe lo hp df).opd (.c (.int .u64 4294967295)) = some (.int .u64 4294967295) := rfl
  have ha := u64_and hr
  have e2 : IntKind.u64.wrap ((BitVec.ofInt 64 a &&& BitVec.ofInt 64 4294967295).toNat : Int) = a := by
    rw [ha, u64_wrap (by omega)]
    omega
  simp only [pureA, hx, e, binA, if_true]
  exact congrArg (fun z => some (AV.int .u64 z)) e2
theorem WO.shr32 {t : Nat} {x : IOpd} {l : List IOper} {pe : List AV} {lo : List (Nat × AV)} {hp : Heap} {df wr : List Nat} {a : Int} {Q : StW → Prop} (hx : (St.mk pe lo hp df).opd x = some (.int .u64 a)) (hr : 0 ≤ a ∧ a < 4294967296)
    (h : WO M l ⟨⟨pe, (t, .int .u64 0) :: lo, hp, df⟩, wr⟩ Q) : WO M (⟨.l t, .bin .shr x (.c (.int .u64 32)), none⟩ :: l) ⟨⟨pe, lo, hp, df⟩, wr⟩ Q := by
  refine WO.pl (v := .int .u64 0) ?_ rfl h
  have e : (St.mk pe lo hp df).opd (.c (.int .u64 32)) = some (.int .u64 32) := rfl
  have : a.fdiv (2 ^ min (Int.toNat 32) IntKind.u64.bits) = 0 := by
    show a.fdiv 4294967296 = 0
    rw [Int.fdiv_eq_ediv_of_nonneg _ (by omega)]
    omega
  simp only [pureA, hx, e, binA, this]
  rfl
theorem WO.mulu {t : Nat} {x y : IOpd} {l : List IOper} {pe : List AV} {lo : List (Nat × AV)} {hp : Heap} {df wr : List Nat} {a b : Int} {Q : StW → Prop} (hx : (St.mk pe lo hp df).opd x = some (.int .u64 a)) (hy : (St.mk pe lo hp df).opd y = some (.int .u64 b)) (hr : 0 ≤ a * b ∧ a * b < 18446744073709551616)
    (h : WO M l ⟨⟨pe, (t, .int .u64 (a * b)) :: lo, hp, df⟩, wr⟩ Q) : WO M (⟨.l t, .bin .mul x y, none⟩ :: l) ⟨⟨pe, lo, hp, df⟩, wr⟩ Q :=
  WO.pl (v := .int .u64 (a * b)) (by simp only [pureA, hx, hy, binA, if_true, u64_wrap hr]) rfl h
theorem WO.addu {t : Nat} {x y : IOpd} {l : List IOper} {pe : List AV} {lo : List (Nat × AV)} {hp : Heap} {df wr : List Nat} {a b : Int} {Q : StW → Prop} (hx : (St.mk pe lo hp df).opd x = some (.int .u64 a)) (hy : (St.mk pe lo hp df).opd y = some (.int .u64 b)) (hr : 0 ≤ a + b ∧ a + b < 18446744073709551616)
    (h : WO M l ⟨⟨pe, (t, .int .u64 (a + b)) :: lo, hp, df⟩, wr⟩ Q) : WO M (⟨.l t, .bin .add x y, none⟩ :: l) ⟨⟨pe, lo, hp, df⟩, wr⟩ Q :=
  WO.pl (v := .int .u64 (a + b)) (by simp only [pureA, hx, hy, binA, if_true, u64_wrap hr]) rfl h
theorem w259 (hft : M.FT = FT) (t : Nat) (ht : t ≤ 4096) : Run M 259 [.int .u64 1, .int .u64 t] [] ⟨.tup [.int .u64 0, .int .u64 t], [], []⟩ := by
  refine run_of_W (by rw [hft]; exact ft259) (by simp) ?_
  unfold b259
  simp only [List.map_cons, List.map_nil, List.getElem?_cons_zero, List.getElem?_cons_succ, List.getElem?_nil, Option.getD_some, Option.getD_none]
  repeat' first | (apply WO.and32; exact rfl; omega) | (apply WO.shr32; exact rfl; omega) | (apply WO.mulu; exact rfl; exact rfl; omega) | (apply WO.addu; exact rfl; exact rfl; omega) | apply W.seq | apply SQn | apply W.region | apply WO.nil | apply W.block | apply W.ret | apply W.exit | apply W.skip | apply SQr | apply SQe | apply BQn | apply BQr | apply BQe | (apply BQo; exact rfl) | apply LQe | apply LQr | (apply W.condT; exact rfl) | (apply W.condF; exact rfl) | (apply W.cond; exact rfl; all_goals intro _) | (apply WO.shr1; exact rfl) | (apply WO.add; exact rfl; exact rfl; omega) | (apply WO.mul; exact rfl; exact rfl; omega) | (apply WO.pl; exact rfl; exact rfl) | (apply WO.pp; exact rfl; exact rfl)
  exact ⟨.inr rfl, rfl, _, rfl, by simp [tupA], rfl⟩
theorem w203 (hft : M.FT = FT) (c259 : ∀ (t : Nat) h, t ≤ 4096 → M.ext 259 [.int .u64 1, .int .u64 t] h = some ⟨.tup [.int .u64 0, .int .u64 t], h, []⟩) (t : Nat) (ht : t ≤ 4096) : Run M 203 [.int .u64 1, .int .u64 t] [] ⟨.tup [.int .u64 0, .int .u64 t], [], []⟩ := by
  refine run_of_W (by rw [hft]; exact ft203) (by simp) ?_
  unfold b203
  simp only [List.map_cons, List.map_nil, List.getElem?_cons_zero, List.getElem?_cons_succ, List.getElem?_nil, Option.getD_some, Option.getD_none]
  repeat' first | apply W.seq | apply SQn | apply W.region | apply WO.nil | apply W.block | apply W.ret | apply W.exit | apply W.skip | apply SQr | apply SQe | apply BQn | apply BQr | apply BQe | (apply BQo; exact rfl) | apply LQe | apply LQr | (apply W.condT; exact rfl) | (apply W.condF; exact rfl) | (apply W.cond; exact rfl; all_goals intro _) | (apply WO.cvu; exact rfl; omega) | (apply WO.cll; exact rfl; exact rfl; first | exact c259 t _ ht) | (apply WO.clb; exact rfl; exact rfl; exact rfl; all_goals first | (intro h; exact absurd h (by decide)) | intro _) | (apply WO.cll; exact rfl; exact rfl; exact rfl) | (apply WO.pl; exact rfl; exact rfl) | (apply WO.pp; exact rfl; exact rfl)
  exact ⟨.inr rfl, rfl, _, rfl, rfl, rfl⟩
end Go.Ab.Ch5


/-
  Own work: images: slices.Repeat of one text.
-/
namespace Go.Ab.Ch5
variable {M : Mach} {cap : Option Nat} {h : Heap} {b n : Nat}

theorem strs_map (l : List Str) : strs l = l.map AV.str := by
  simp only [strs, arr]
  induction l with
  | nil => rfl
  | cons y l ih => simp only [List.flatMap_cons, List.map_cons, ih]; rfl
theorem strs_take (l : List Str) (n : Nat) : (strs l).take n = strs (l.take n) := by rw [strs_map, strs_map, List.map_take]
theorem strs_drop (l : List Str) (n : Nat) : (strs l).drop n = strs (l.drop n) := by rw [strs_map, strs_map, List.map_drop]
theorem copy_keep {T : List Nat} {hp : Heap} {s : St} {esz b off len e : Nat} {cap : Option Nat} {x y : IOpd} {yv : AV} (ha : s.opd x = some (.sl b off len e cap)) (hb : s.opd y = some yv) (hbT : b ∈ T) (hy : ∀ c, c ∈ blkOf (some yv) → c ∈ T) {r : HR} (hr : heapA s (.copy esz x y) hp = some r) :
    ∃ h', heapA s (.copy esz x y) (keep T hp 0) = some ⟨r.v, h', r.wr⟩ ∧ mergeW r.wr hp h' 0 = r.h ∧ ((r.wr.all fun c => ((keep T hp 0).at c).isSome) = true) ∧ r.wr = [b] := by
  have hk : (keep T hp 0).at b = hp.at b := by rw [keep_at', if_pos (by simpa using hbT)]
  simp only [heapA, ha, hb] at hr ⊢
  rw [slice_keep hy]
  split at hr
  · rename_i src n hs
    split at hr
    · rename_i hc
      split at hr
      · rename_i l el hat
        split at hr
        · rename_i hin
          cases hr
          refine ⟨Heap.put (keep T hp 0) b (some (.cells (overwrite l off (src.take (min n len * esz))) el)), ?_, merge_keep_put', by simp [hk, hat], rfl⟩
          simp only [if_pos hc, hk, hat, if_pos hin]
        · cases hr
      · cases hr
    · cases hr
  · cases hr
theorem WD.cpy {d : Dst} {esz : Nat} {x y : IOpd} {un : List Nat} {l : List (IOper × List Nat)} {s : StW} {ds : List Done} {b off len e : Nat} {cap : Option Nat} {yv : AV} {Q : StW → Prop} (ha : s.s.opd x = some (.sl b off len e cap)) (hb : s.s.opd y = some yv)
    (hd : disj ([b] ++ blkOf (some yv)) (un.flatMap fun j => (ds[j]?).elim [] Done.own) = true) (hu : un.all (fun j => match ds[j]? with | some d => (match d.touch with | some T => disj [b] T | none => false) | none => false) = true)
    (h : ∀ dn, WO M [⟨d, .copy esz x y, none⟩] s fun s' => WD M l s' (ds ++ [dn]) Q) : WD M ((⟨d, .copy esz x y, none⟩, un) :: l) s ds Q := by
  have ox : ∀ h0, (St.mk s.s.pe s.s.lo h0 s.s.dfs).opd x = some (.sl b off len e cap) := fun h0 => by rw [← ha]; cases x <;> rfl
  have oy : ∀ h0, (St.mk s.s.pe s.s.lo h0 s.s.dfs).opd y = some yv := fun h0 => by rw [← hb]; cases y <;> rfl
  have keyn : ∀ n h0, opA (M.call n) M.inv { s.s with hp := h0 } (.copy esz x y) = heapA s.s (.copy esz x y) h0 := fun n h0 => by
    simp only [opA, IOp.heapy, if_true, heapA, ox, oy, ha, hb]
  cases hq : heapA s.s (.copy esz x y) s.s.hp with
  | none =>
    obtain ⟨⟨k, s1, h1, _⟩⟩ := h ⟨none, [], 0, 0⟩
    simp only [opersA, wantedA] at h1
    rw [show opA (M.call k) M.inv s.s (.copy esz x y) = none from (keyn k s.s.hp).trans hq] at h1
    cases h1
  | some r =>
    obtain ⟨h', e1, e2, e3, e4⟩ := copy_keep (T := [b] ++ blkOf (some yv)) ha hb (by simp) (fun c hc => List.mem_append_right _ hc) hq
    obtain ⟨⟨k, s1, h1, ⟨⟨m, s', h2, h3⟩⟩⟩⟩ := h ⟨some ([b] ++ blkOf (some yv)), r.wr, s.s.hp.length, h'.length⟩
    refine ⟨⟨m, s', ?_, h3⟩⟩
    simp only [opersA, wantedA] at h1
    rw [show opA (M.call k) M.inv s.s (.copy esz x y) = some r from (keyn k s.s.hp).trans hq] at h1
    simp only [Option.some.injEq] at h1
    have ht : touchA s.s (.copy esz x y) = some ([b] ++ blkOf (some yv)) := by
      simp only [touchA, ha, hb]
      congr 1
    simp only [drawA, wantedA, IOp.heapy, if_true, ht, hd]
    rw [show opA (M.call m) M.inv { s.s with hp := keep ([b] ++ blkOf (some yv)) s.s.hp 0 } (.copy esz x y) = some ⟨r.v, h', r.wr⟩ from (keyn m _).trans e1]
    simp only
    rw [← h1] at h2
    rw [if_pos (by rw [Bool.and_eq_true]; exact ⟨e3, by rw [e4]; exact hu⟩), e2]
    exact h2
theorem WO.cps {t b off len : Nat} {cap : Option Nat} {x y : IOpd} {l : List IOper} {pe : List AV} {lo : List (Nat × AV)} {hp : Heap} {df wr : List Nat} {A src : List Str} {yv : AV} {Q : StW → Prop} (hx : (St.mk pe lo hp df).opd x = some (.sl b off len 1 cap)) (hy : (St.mk pe lo hp df).opd y = some yv) (hs : sliceCells hp yv = some (strs src, src.length))
    (hb : hp.at b = some (.cells (strs A) 9)) (hin : off + min src.length len ≤ A.length) (h : WO M l ⟨⟨pe, (t, .int .i64 ((min src.length len : Nat) : Int)) :: lo, hp.put b (some (.cells (strs (A.take off ++ src.take (min src.length len) ++ A.drop (off + min src.length len))) 9)), df⟩, b :: wr⟩ Q) : WO M (⟨.l t, .copy 1 x y, none⟩ :: l) ⟨⟨pe, lo, hp, df⟩, wr⟩ Q := by
  refine WO.hlv (v := .int .i64 ((min src.length len : Nat) : Int)) (h' := hp.put b (some (.cells (strs (A.take off ++ src.take (min src.length len) ++ A.drop (off + min src.length len))) 9))) (w' := [b]) ?_ rfl rfl h
  have ho : overwrite (strs A) off ((strs src).take (min src.length len * 1)) = strs (A.take off ++ src.take (min src.length len) ++ A.drop (off + min src.length len)) := by
    rw [Nat.mul_one, overwrite, strs_take, strs_take, strs_drop, strs_len, strs_append, strs_append, List.length_take]
    rw [show min (min src.length len) src.length = min src.length len by omega]
  simp only [heapA, hx, hy, hs, hb]
  rw [if_pos ⟨trivial, by rw [strs_len, Nat.mul_one], strs_one src⟩, if_pos (by rw [strs_len]; omega), ho]
theorem rz_strs : ∀ n : Nat, repeatZero [AV.str []] n = strs (List.replicate n [])
  | 0 => rfl
  | n + 1 => by
    rw [repeatZero, rz_strs n, List.replicate_succ]
    rfl
theorem WO.mkS {t : Nat} {x : IOpd} {l : List IOper} {pe : List AV} {lo : List (Nat × AV)} {hp : Heap} {df wr : List Nat} {k : Nat} {Q : StW → Prop} (hx : (St.mk pe lo hp df).opd x = some (.int .i64 k)) (hk : k ≤ 4096)
    (h : WO M l ⟨⟨pe, (t, .sl hp.length 0 k 1 (some k)) :: lo, hp ++ [some (.cells (strs (List.replicate k [])) 9)], df⟩, wr⟩ Q) : WO M (⟨.l t, .mkslice 9 1 16 [.str []] x x, none⟩ :: l) ⟨⟨pe, lo, hp, df⟩, wr⟩ Q := by
  refine WO.mks hx hx ⟨by omega, Int.le_refl _, by unfold roomLimit; omega, by omega, rfl⟩ ?_
  rw [Int.toNat_natCast, rz_strs]
  exact h
theorem WO.sls {t b o len c : Nat} {x y : IOpd} {l : List IOper} {pe : List AV} {lo : List (Nat × AV)} {hp : Heap} {df wr : List Nat} {k : Nat} {Q : StW → Prop} (hx : (St.mk pe lo hp df).opd x = some (.sl b o len 1 (some c))) (hy : (St.mk pe lo hp df).opd y = some (.int .i64 k)) (hn : k < len)
    (h : WO M l ⟨⟨pe, (t, .sl b (o + k) (len - k) 1 (some (c - k))) :: lo, hp, df⟩, wr⟩ Q) : WO M (⟨.l t, .slice .sl 1 x (some y) none none, none⟩ :: l) ⟨⟨pe, lo, hp, df⟩, wr⟩ Q := by
  refine WO.pl (v := .sl b (o + k) (len - k) 1 (some (c - k))) ?_ rfl h
  have h1 : (0 : Int) ≤ (k : Int) ∧ (k : Int) ≤ len := ⟨by omega, by omega⟩
  simp only [pureA, hx, St.oopd, hy, Option.map_some, sliceA, boundA]
  simp [h1, hn]
theorem WO.slq {t b o len c : Nat} {x y : IOpd} {l : List IOper} {pe : List AV} {lo : List (Nat × AV)} {hp : Heap} {df wr : List Nat} {k : Nat} {Q : StW → Prop} (hx : (St.mk pe lo hp df).opd x = some (.sl b o len 1 (some c))) (hy : (St.mk pe lo hp df).opd y = some (.int .i64 k)) (hn : 0 < k ∧ k ≤ c)
    (h : WO M l ⟨⟨pe, (t, .sl b o k 1 (some c)) :: lo, hp, df⟩, wr⟩ Q) : WO M (⟨.l t, .slice .sl 1 x none (some y) none, none⟩ :: l) ⟨⟨pe, lo, hp, df⟩, wr⟩ Q := by
  refine WO.pl (v := .sl b o k 1 (some c)) ?_ rfl h
  have h1 : (0 : Int) ≤ (k : Int) ∧ (k : Int) ≤ c := ⟨by omega, by omega⟩
  simp only [pureA, hx, St.oopd, hy, Option.map_some, sliceA, boundA, Option.getD_some]
  simp [h1, hn.1]

/-! Repeat. -/
def half (t k : Nat) (s : Str) : List Str := List.replicate k s ++ List.replicate (t - k) []
theorem half_len {t k : Nat} {s : Str} (hk : k ≤ t) : (half t k s).length = t := by simp [half]; omega
theorem half_step {t k m : Nat} {s : Str} (hm : m ≤ k) (hk : k + m ≤ t) : (half t k s).take k ++ (List.replicate k s).take m ++ (half t k s).drop (k + m) = half t (k + m) s := by
  unfold half
  rw [List.take_append_of_le_length (by simp), List.take_of_length_le (by simp), List.take_replicate, Nat.min_eq_left hm, List.drop_append, List.drop_of_length_le (by simp), List.nil_append, List.drop_replicate, List.replicate_append_replicate]
  congr 2
  simp
  omega
theorem half_cells {t k : Nat} {s : Str} {b c : Nat} {H : Heap} (hb : H.at b = some (.cells (strs (half t k s)) 9)) : sliceCells H (.sl b 0 k 1 (some c)) = some (strs (List.replicate k s), (List.replicate k s).length) := by
  have e : cut (strs (half t k s)) 0 (k * 1) = some (strs (List.replicate k s)) := by
    rw [Nat.mul_one]
    have h1 : ((strs (half t k s)).drop 0).take k = strs (List.replicate k s) := by
      rw [List.drop_zero, strs_take, half, List.take_append_of_le_length (by simp), List.take_of_length_le (by simp)]
    unfold cut
    rw [h1]
    rw [if_pos (by rw [strs_len]; simp)]
  simp only [sliceCells, hb, e, Option.map_some, List.length_replicate]
theorem loop150 (t : Nat) (ht : t ≤ 4096) (s : Str) (a0 a3 a4 : AV) {Q : Ex → StW → Prop} (hQ : ∀ lo wr, Q (.exit 0) ⟨⟨[a0, .int .i64 t, .nilsl, a3, a4, .sl 0 0 t 1 (some t), .int .i64 t], lo, [some (.cells (strs (List.replicate t s)) 9)], []⟩, wr⟩) : ∀ (r k : Nat), t - k ≤ r → 0 < k → k ≤ t → ∀ (lo : List (Nat × AV)) (wr : List Nat),
    W M (.loop b150_0) ⟨⟨[a0, .int .i64 t, .nilsl, a3, a4, .sl 0 0 t 1 (some t), .int .i64 k], lo, [some (.cells (strs (half t k s)) 9)], []⟩, wr⟩ Q := by
  intro r
  induction r with
  | zero =>
    intro k hr h0 hk lo wr
    obtain rfl : k = t := by omega
    have e : half k k s = List.replicate k s := by simp [half]
    rw [e]
    refine W.loop ?_
    unfold b150_0
    repeat' first | apply W.seq | apply SQn | apply W.region | apply WO.nil | apply W.block | apply W.ret | apply W.exit | apply W.skip | apply SQr | apply SQe | apply BQn | apply BQr | apply BQe | (apply BQo; exact rfl) | apply LQe | apply LQr | (apply W.drawro; exact rfl) | apply W.draw | apply WD.nil | (apply WD.gT; exact rfl) | (apply WD.gF; exact rfl) | (apply WD.sT; exact rfl) | (apply WD.sF; exact rfl) | (apply WD.sU; exact rfl) | (apply WD.pure1; exact rfl) | (apply W.condT; exact rfl) | (apply W.condF; exact rfl) | (apply W.cond; exact rfl; all_goals intro _) | (apply WO.lss; exact rfl; exact rfl; all_goals first | (intro _; exfalso; omega) | intro _) | (apply WO.add; exact rfl; exact rfl; omega) | (apply WO.hlv; exact rfl; exact rfl; exact rfl) | (apply WO.hpv; exact rfl; exact rfl; exact rfl) | (apply WO.hnv; exact rfl; exact rfl; exact rfl) | (apply WO.pl; exact rfl; exact rfl) | (apply WO.pp; exact rfl; exact rfl)
    exact hQ _ _
  | succ r ih =>
    intro k hr h0 hk lo wr
    by_cases hkt : k = t
    · subst hkt
      have e : half k k s = List.replicate k s := by simp [half]
      rw [e]
      refine W.loop ?_
      unfold b150_0
      repeat' first | apply W.seq | apply SQn | apply W.region | apply WO.nil | apply W.block | apply W.ret | apply W.exit | apply W.skip | apply SQr | apply SQe | apply BQn | apply BQr | apply BQe | (apply BQo; exact rfl) | apply LQe | apply LQr | (apply W.drawro; exact rfl) | apply W.draw | apply WD.nil | (apply WD.gT; exact rfl) | (apply WD.gF; exact rfl) | (apply WD.sT; exact rfl) | (apply WD.sF; exact rfl) | (apply WD.sU; exact rfl) | (apply WD.pure1; exact rfl) | (apply W.condT; exact rfl) | (apply W.condF; exact rfl) | (apply W.cond; exact rfl; all_goals intro _) | (apply WO.lss; exact rfl; exact rfl; all_goals first | (intro _; exfalso; omega) | intro _) | (apply WO.add; exact rfl; exact rfl; omega) | (apply WO.hlv; exact rfl; exact rfl; exact rfl) | (apply WO.hpv; exact rfl; exact rfl; exact rfl) | (apply WO.hnv; exact rfl; exact rfl; exact rfl) | (apply WO.pl; exact rfl; exact rfl) | (apply WO.pp; exact rfl; exact rfl)
      exact hQ _ _
    · have hlt : k < t := by omega
      have hb : Heap.at [some (Blk.cells (strs (half t k s)) 9)] 0 = some (.cells (strs (half t k s)) 9) := rfl
      have hcell := half_cells (c := t) hb
      refine W.loop ?_
      unfold b150_0
      repeat' first | (apply WO.sls; exact rfl; exact rfl; exact hlt) | (apply WO.slq; exact rfl; exact rfl; exact ⟨h0, hk⟩) | (apply WD.cpy; exact rfl; exact rfl; exact rfl; exact rfl; intro _) | (apply WO.cps; exact rfl; exact rfl; exact hcell; exact hb; rw [half_len hk]; simp; omega) | apply W.seq | apply SQn | apply W.region | apply WO.nil | apply W.block | apply W.ret | apply W.exit | apply W.skip | apply SQr | apply SQe | apply BQn | apply BQr | apply BQe | (apply BQo; exact rfl) | apply LQe | apply LQr | (apply W.drawro; exact rfl) | apply W.draw | apply WD.nil | (apply WD.gT; exact rfl) | (apply WD.gF; exact rfl) | (apply WD.sT; exact rfl) | (apply WD.sF; exact rfl) | (apply WD.sU; exact rfl) | (apply WD.pure1; exact rfl) | (apply W.condT; exact rfl) | (apply W.condF; exact rfl) | (apply W.cond; exact rfl; all_goals intro _) | (apply WO.lss; exact rfl; exact rfl; all_goals first | (intro _; exfalso; omega) | intro _) | (apply WO.add; exact rfl; exact rfl; omega) | (apply WO.hlv; exact rfl; exact rfl; exact rfl) | (apply WO.hpv; exact rfl; exact rfl; exact rfl) | (apply WO.hnv; exact rfl; exact rfl; exact rfl) | (apply WO.pl; exact rfl; exact rfl) | (apply WO.pp; exact rfl; exact rfl)
      have e' : (half t k s).take (0 + k) ++ (List.replicate k s).take (min (List.replicate k s).length (t - k)) ++ (half t k s).drop (0 + k + min (List.replicate k s).length (t - k)) = half t (k + min k (t - k)) s := by
        rw [Nat.zero_add, List.length_replicate]
        exact half_step (by omega) (by omega)
      rw [e', List.length_replicate]
      have := ih (k + min k (t - k)) (by omega) (by omega) (by omega)
      refine LQn ?_
      rw [show (k : Int) + ((min k (t - k) : Nat) : Int) = ((k + min k (t - k) : Nat) : Int) by omega]
      exact this _ _
theorem w150 (hft : M.FT = FT) (c203 : ∀ (t : Nat) h, t ≤ 4096 → M.ext 203 [.int .u64 1, .int .u64 t] h = some ⟨.tup [.int .u64 0, .int .u64 t], h, []⟩) (s : Str) (t : Nat) (h1 : 1 ≤ t) (ht : t ≤ 4096) : Run M 150 [.vs (strs [s]) 1 cap, .int .i64 t] [] ⟨.sl 0 0 t 1 (some t), [some (.cells (strs (List.replicate t s)) 9)], []⟩ := by
  have hs : ∀ h, sliceCells h (.vs (strs [s]) 1 cap) = some (strs [s], ([s] : List Str).length) := fun _ => rfl
  have e1 : (List.replicate t ([] : Str)).take 0 ++ ([s] : List Str).take (min ([s] : List Str).length t) ++ (List.replicate t ([] : Str)).drop (0 + min ([s] : List Str).length t) = half t 1 s := by
    rw [show min ([s] : List Str).length t = 1 by simp; omega]
    simp [half]
  refine run_of_W (by rw [hft]; exact ft150) (by simp) ?_
  unfold b150
  simp only [List.map_cons, List.map_nil, List.getElem?_cons_zero, List.getElem?_cons_succ, List.getElem?_nil, Option.getD_some, Option.getD_none]
  repeat' first | (apply WO.mkS; exact rfl; exact ht) | (apply WO.cps; exact rfl; exact rfl; exact hs _; exact rfl; simp; omega) | apply W.seq | apply SQn | apply W.region | apply WO.nil | apply W.block | apply W.ret | apply W.exit | apply W.skip | apply SQr | apply SQe | apply BQn | apply BQr | apply BQe | (apply BQo; exact rfl) | apply LQe | apply LQr | (apply W.condT; exact rfl) | (apply W.condF; exact rfl) | (apply W.cond; exact rfl; all_goals intro _) | (apply WO.gT; exact rfl) | (apply WO.gF; exact rfl) | (apply WO.sT; exact rfl) | (apply WO.sF; exact rfl) | (apply WO.sU; exact rfl) | (apply WO.lss; exact rfl; exact rfl; all_goals first | (intro _; exfalso; omega) | intro _) | (apply WO.gtr; exact rfl; exact rfl; all_goals first | (intro _; exfalso; omega) | intro _) | (apply WO.cvu; exact rfl; omega) | (apply WO.cvi; exact rfl; omega) | (apply WO.pkT; exact rfl; exact rfl) | (apply WO.pkF; exact rfl; exact rfl) | (apply WO.cll; exact rfl; exact rfl; first | exact c203 t _ ht) | (apply WO.mki; exact rfl; exact rfl; omega) | (apply WO.mkb; exact rfl; exact rfl; omega) | (apply WO.clb; exact rfl; exact rfl; exact rfl; all_goals first | (intro h; exact absurd h (by decide)) | intro _) | (apply WO.cll; exact rfl; exact rfl; exact rfl) | (apply WO.hlv; exact rfl; exact rfl; exact rfl) | (apply WO.hpv; exact rfl; exact rfl; exact rfl) | (apply WO.hnv; exact rfl; exact rfl; exact rfl) | (apply WO.pl; exact rfl; exact rfl) | (apply WO.pp; exact rfl; exact rfl)
  rw [e1]
  rw [show (((min ([s] : List Str).length t : Nat) : Int)) = ((1 : Nat) : Int) by simp; omega]
  refine loop150 t ht s _ _ _ (fun lo wr => ?_) t 1 (by omega) (by omega) h1 _ _
  repeat' first | apply W.seq | apply SQn | apply W.region | apply WO.nil | apply W.block | apply W.ret | apply W.exit | apply W.skip | apply SQr | apply SQe | apply BQn | apply BQr | apply BQe | (apply BQo; exact rfl) | apply LQe | apply LQr | (apply W.condT; exact rfl) | (apply W.condF; exact rfl) | (apply W.cond; exact rfl; all_goals intro _) | (apply WO.gT; exact rfl) | (apply WO.gF; exact rfl) | (apply WO.sT; exact rfl) | (apply WO.sF; exact rfl) | (apply WO.sU; exact rfl) | (apply WO.lss; exact rfl; exact rfl; all_goals first | (intro _; exfalso; omega) | intro _) | (apply WO.gtr; exact rfl; exact rfl; all_goals first | (intro _; exfalso; omega) | intro _) | (apply WO.cvu; exact rfl; omega) | (apply WO.cvi; exact rfl; omega) | (apply WO.pkT; exact rfl; exact rfl) | (apply WO.pkF; exact rfl; exact rfl) | (apply WO.mki; exact rfl; exact rfl; omega) | (apply WO.mkb; exact rfl; exact rfl; omega) | (apply WO.clb; exact rfl; exact rfl; exact rfl; all_goals first | (intro h; exact absurd h (by decide)) | intro _) | (apply WO.cll; exact rfl; exact rfl; exact rfl) | (apply WO.hlv; exact rfl; exact rfl; exact rfl) | (apply WO.hpv; exact rfl; exact rfl; exact rfl) | (apply WO.hnv; exact rfl; exact rfl; exact rfl) | (apply WO.pl; exact rfl; exact rfl) | (apply WO.pp; exact rfl; exact rfl)
  exact ⟨.inr rfl, rfl, _, rfl, rfl, rfl⟩
end Go.Ab.Ch5


/-
  Own work: images: Stretched; the same lists, the same images.
-/
namespace Go.Ab.Ch5
variable {M : Mach} {cap : Option Nat} {h : Heap} {b n : Nat}

theorem OutW.pushs {t : Nat} {X : List Str} {l : List IOper} {pe : List AV} {lo : List (Nat × AV)} {K : Heap} {df wr : List Nat} {a b : IOpd} {o bv : AV} {acc : List Str} {Q : StW → Prop} (h : OutW K o acc) (ha : (St.mk pe lo K df).opd a = some o) (hb : (St.mk pe lo K df).opd b = some bv) (hs : sliceCells K bv = some (strs X, X.length)) (hX : 0 < X.length)
    (hn : acc.length + X.length < 1000000) (hQ : ∀ (H : Heap) (w' : List Nat) o', OutW H o' (acc ++ X) → (∀ k blk, (∀ c n, o = .sl c 0 n 1 none → k ≠ c) → K.at k = some blk → H.at k = some blk) → (∀ c n, o' = .sl c 0 n 1 none → K.length ≤ c) → K.length ≤ H.length → WO M l ⟨⟨pe, (t, o') :: lo, H, df⟩, w'⟩ Q) : WO M (⟨.l t, .append 9 1 16 a b, none⟩ :: l) ⟨⟨pe, lo, K, df⟩, wr⟩ Q := by
  have hc : (strs X).length = X.length * 1 ∧ 0 < 16 ∧ (strs X).all oneA = true := ⟨by rw [strs_len, Nat.mul_one], by decide, strs_one X⟩
  have hne : acc ++ X ≠ [] := fun e => by
    simp at e
    simp [e.2] at hX
  rcases h with ⟨rfl, rfl⟩ | ⟨c, _, rfl, hat⟩
  · refine WO.apn ha hb hs hc ⟨hX, by unfold roomLimit; simp at hn; omega⟩ (hQ _ _ _ (.inr ⟨K.length, hne, by simp, by rw [List.nil_append]; exact at_new⟩) (fun k blk _ hk => at_old hk) (fun c n hc => by cases hc; exact Nat.le_refl _) (by simp))
  · refine WO.apo ha hb hs hc ⟨hX, by unfold roomLimit; omega⟩ hat (by rw [strs_len]; omega) (hQ _ _ _ (.inr ⟨K.length, hne, by simp, ?_⟩) (fun k blk hk hb => at_old (at_else (hk c _ rfl) hb)) (fun c n hc => by cases hc; exact Nat.le_refl _) (by simp [put_length]))
    have e : (K.put c none).length = K.length := put_length
    rw [strs_append, List.drop_zero, ← e]
    exact at_new

/-! Stretched. -/
def strE (rows : Int) (l : List Str) (times : Int) : Int := if imgE rows l ≠ 0 then imgE rows l else if outI times 1 4096 then 3 else if (l.length : Int) * times > 4096 then 5 else 0
theorem WO.mulx {t : Nat} {x y : IOpd} {l : List IOper} {pe : List AV} {lo : List (Nat × AV)} {hp : Heap} {df wr : List Nat} {a b : Int} {Q : StW → Prop} (hx : (St.mk pe lo hp df).opd x = some (.int .i64 a)) (hy : (St.mk pe lo hp df).opd y = some (.int .i64 b))
    (h : ∀ r, WO M l ⟨⟨pe, (t, .int .i64 r) :: lo, hp, df⟩, wr⟩ Q) : WO M (⟨.l t, .bin .mul x y, none⟩ :: l) ⟨⟨pe, lo, hp, df⟩, wr⟩ Q :=
  WO.pl (v := .int .i64 (IntKind.i64.wrap (a * b))) (by simp only [pureA, hx, hy, binA, if_true]) rfl (h _)
structure C66 (M : Mach) : Prop where
  ft : M.FT = FT
  c91 : ∀ t e h, M.ext 91 [.bool t, .int .i64 e] h = some ⟨.int .i64 (if t then e else 0), h, []⟩
  c121 : ∀ x lo hi h, M.ext 121 [.int .i64 x, .int .i64 lo, .int .i64 hi] h = some ⟨.int .i64 (if outI x lo hi then 3 else 0), h, []⟩
  c90 : ∀ v l h, intsAt h v = some l → l.length < 4611686018427387904 → M.ext 90 [v] h = some ⟨.int .i64 (firstNZ l), h, []⟩
  c70 : ∀ rows (l : List Str) cap h, (∀ s ∈ l, s.length < 4611686018427387904) → l.length < 1000000 → M.ext 70 [.agg [.int .i64 rows, .vs (strs l) l.length cap]] h = some ⟨.int .i64 (imgE rows l), h, []⟩
  c150 : ∀ H (s : Str) (t : Nat), 1 ≤ t → t ≤ 4096 → M.ext 150 [.sl H.length 0 1 1 (some 1), .int .i64 t] (H ++ [some (.cells [.str s] 9)]) = some ⟨.sl (H ++ [some (Blk.cells [.str s] 9)]).length 0 t 1 (some t), (H ++ [some (.cells [.str s] 9)]) ++ [some (.cells (strs (List.replicate t s)) 9)], []⟩
theorem C66.q3 (C : C66 M) (H : Heap) (a b c : Int) : M.ext 90 [.sl H.length 0 3 1 (some 3)] (H ++ [some (.cells [.int .i64 a, .int .i64 b, .int .i64 c] 28)]) = some ⟨.int .i64 (firstNZ [a, b, c]), H ++ [some (.cells [.int .i64 a, .int .i64 b, .int .i64 c] 28)], []⟩ := by
  have e : Heap.at (H ++ [some (.cells [.int .i64 a, .int .i64 b, .int .i64 c] 28)]) H.length = some (.cells (ints [a, b, c]) 28) := at_new
  exact C.c90 _ [a, b, c] _ (ints_at' e rfl) (by simp)
theorem imgE_small {rows : Int} {l : List Str} (hE : imgE rows l = 0) : l.length ≤ 4096 := by
  unfold imgE at hE
  split at hE
  · rename_i h; exact absurd hE h
  · rename_i h
    have h := Decidable.not_not.1 h
    unfold headE at h
    split at h
    · exact absurd h (by decide)
    · split at h
      · exact absurd h (by decide)
      · split at h
        · exact absurd h (by decide)
        · omega
theorem w66e (C : C66 M) (rows : Int) (l : List Str) (times : Int) (hL : ∀ s ∈ l, s.length < 4611686018427387904) (hl : l.length < 1000000) (hE : strE rows l times ≠ 0) : Run M 66 [.agg [.int .i64 rows, .vs (strs l) l.length cap], .int .i64 times] [] ⟨.tup [.agg [.int .i64 0, .nilsl], .int .i64 (strE rows l times)], [], []⟩ := by
  have q70 := fun h => C.c70 rows l cap h hL hl
  have q := fun T : Bool => C.q3 [some (.cells [.int .i64 rows, .vs (strs l) l.length cap] 24), some (.cells [.int .i64 0, .nilsl] 24)] (imgE rows l) (if outI times 1 4096 = true then 3 else 0) (if T = true then 5 else 0)
  refine run_of_W (by rw [C.ft]; exact ft66) (by simp) ?_
  unfold b66
  simp only [List.map_cons, List.map_nil, List.getElem?_cons_zero, List.getElem?_cons_succ, List.getElem?_nil, Option.getD_some, Option.getD_none]
  by_cases hI : imgE rows l = 0
  · cases ho : outI times 1 4096
    · rw [ho] at q
      rw [hI] at q q70
      have h1 : 1 ≤ times ∧ times ≤ 4096 := by simp [outI] at ho; omega
      have hs := imgE_small hI
      have hE' : (l.length : Int) * times > 4096 ∧ strE rows l times = 5 := by
        unfold strE at hE ⊢
        rw [if_neg (fun h => h hI), ho] at hE ⊢
        simp only [Bool.false_eq_true, if_false] at hE ⊢
        by_cases hc : (l.length : Int) * times > 4096
        · exact ⟨hc, if_pos hc⟩
        · rw [if_neg hc] at hE; exact absurd rfl hE
      rw [hE'.2]
      have hm : (l.length : Int) * times ≤ 4096 * 4096 := Int.mul_le_mul (by omega) h1.2 (by omega) (by omega)
      have hg := hE'.1
      have q5 := q true
      have ev : firstNZ [0, if false = true then 3 else 0, if true = true then 5 else 0] = 5 := rfl
      rw [ev] at q5
      have q121 := fun h => C.c121 times 1 4096 h
      rw [ho] at q121
      repeat' first | apply W.seq | apply SQn | apply W.region | apply WO.nil | apply W.block | apply W.ret | apply W.exit | apply W.skip | apply SQr | apply SQe | apply BQn | apply BQr | apply BQe | (apply BQo; exact rfl) | apply LQe | apply LQr | (apply W.drawro; exact rfl) | apply W.draw | apply WD.nil | (apply WD.gT; exact rfl) | (apply WD.gF; exact rfl) | (apply WD.sT; exact rfl) | (apply WD.sF; exact rfl) | (apply WD.sU; exact rfl) | (apply WD.pure1; exact rfl) | (apply WD.load1; exact rfl; exact rfl; exact rfl) | (apply WD.store1; exact rfl; exact rfl; exact rfl) | (apply WD.new1; exact rfl) | (apply WD.clb; exact rfl; exact rfl; exact rfl; exact rfl; all_goals first | (intro h; exact absurd h (by decide)) | intro _) | (apply WD.cl0; exact rfl; exact rfl; exact rfl; exact rfl) | (apply WD.cl1; exact rfl; exact rfl; exact rfl; exact rfl) | (apply W.condT; exact rfl) | (apply W.condF; exact rfl) | (apply W.cond; exact rfl; all_goals intro _) | (apply WO.gtr; exact rfl; exact rfl; all_goals first | (intro _; exfalso; omega) | intro _) | (apply WO.neq; exact rfl; exact rfl; all_goals first | (intro _; exfalso; omega) | intro _) | (apply WO.mul; exact rfl; exact rfl; omega) | (apply WO.cll; exact rfl; exact rfl; first | exact q70 _ | exact C.c91 _ _ _ | exact q121 _ | exact q5) | (apply WD.cl0; exact rfl; exact rfl; exact rfl; first | exact q70 _ | exact C.c91 _ _ _ | exact q121 _ | exact q5) | (apply WO.sneq; exact rfl; exact rfl; all_goals first | (intro h; exact absurd h (by decide)) | (intro h; exact absurd rfl h) | (intro h; contradiction) | intro _) | (apply WO.clb; exact rfl; exact rfl; exact rfl; all_goals first | (intro h; exact absurd h (by decide)) | intro _) | (apply WO.cll; exact rfl; exact rfl; exact rfl) | (apply WO.hlv; exact rfl; exact rfl; exact rfl) | (apply WO.hpv; exact rfl; exact rfl; exact rfl) | (apply WO.hnv; exact rfl; exact rfl; exact rfl) | (apply WO.pl; exact rfl; exact rfl) | (apply WO.pp; exact rfl; exact rfl)
      exact ⟨.inr rfl, rfl, _, rfl, rfl, rfl⟩
    · have hE' : strE rows l times = 3 := by rw [strE, if_neg (fun h => h hI), ho]; rfl
      rw [hE']
      rw [hI, ho] at q
      rw [hI] at q70
      have q3 : ∀ T : Bool, M.ext 90 _ _ = _ := fun T => (q T).trans (by rw [show firstNZ [0, if true = true then 3 else 0, if T = true then 5 else 0] = 3 from rfl])
      have q121 := fun h => C.c121 times 1 4096 h
      rw [ho] at q121
      repeat' first | (apply WO.mulx; exact rfl; exact rfl; intro _) | apply W.seq | apply SQn | apply W.region | apply WO.nil | apply W.block | apply W.ret | apply W.exit | apply W.skip | apply SQr | apply SQe | apply BQn | apply BQr | apply BQe | (apply BQo; exact rfl) | apply LQe | apply LQr | (apply W.drawro; exact rfl) | apply W.draw | apply WD.nil | (apply WD.gT; exact rfl) | (apply WD.gF; exact rfl) | (apply WD.sT; exact rfl) | (apply WD.sF; exact rfl) | (apply WD.sU; exact rfl) | (apply WD.pure1; exact rfl) | (apply WD.load1; exact rfl; exact rfl; exact rfl) | (apply WD.store1; exact rfl; exact rfl; exact rfl) | (apply WD.new1; exact rfl) | (apply WD.clb; exact rfl; exact rfl; exact rfl; exact rfl; all_goals first | (intro h; exact absurd h (by decide)) | intro _) | (apply WD.cl0; exact rfl; exact rfl; exact rfl; exact rfl) | (apply WD.cl1; exact rfl; exact rfl; exact rfl; exact rfl) | (apply W.condT; exact rfl) | (apply W.condF; exact rfl) | (apply W.cond; exact rfl; all_goals intro _) | (apply WO.gtr; exact rfl; exact rfl; all_goals first | (intro _; exfalso; omega) | intro _) | (apply WO.neq; exact rfl; exact rfl; all_goals first | (intro _; exfalso; omega) | intro _) | (apply WO.mul; exact rfl; exact rfl; omega) | (apply WO.cll; exact rfl; exact rfl; first | exact q70 _ | exact C.c91 _ _ _ | exact q121 _ | exact q3 _) | (apply WD.cl0; exact rfl; exact rfl; exact rfl; first | exact q70 _ | exact C.c91 _ _ _ | exact q121 _ | exact q3 _) | (apply WO.sneq; exact rfl; exact rfl; all_goals first | (intro h; exact absurd h (by decide)) | (intro h; exact absurd rfl h) | (intro h; contradiction) | intro _) | (apply WO.clb; exact rfl; exact rfl; exact rfl; all_goals first | (intro h; exact absurd h (by decide)) | intro _) | (apply WO.cll; exact rfl; exact rfl; exact rfl) | (apply WO.hlv; exact rfl; exact rfl; exact rfl) | (apply WO.hpv; exact rfl; exact rfl; exact rfl) | (apply WO.hnv; exact rfl; exact rfl; exact rfl) | (apply WO.pl; exact rfl; exact rfl) | (apply WO.pp; exact rfl; exact rfl)
      all_goals exact ⟨.inr rfl, rfl, _, rfl, rfl, rfl⟩
  · have hE' : strE rows l times = imgE rows l := by rw [strE, if_pos hI]
    rw [hE']
    have q3 : ∀ T : Bool, M.ext 90 _ _ = _ := fun T => (q T).trans (by rw [show firstNZ [imgE rows l, if outI times 1 4096 = true then 3 else 0, if T = true then 5 else 0] = imgE rows l by rw [firstNZ, if_neg hI]])
    repeat' first | (apply WO.mulx; exact rfl; exact rfl; intro _) | apply W.seq | apply SQn | apply W.region | apply WO.nil | apply W.block | apply W.ret | apply W.exit | apply W.skip | apply SQr | apply SQe | apply BQn | apply BQr | apply BQe | (apply BQo; exact rfl) | apply LQe | apply LQr | (apply W.drawro; exact rfl) | apply W.draw | apply WD.nil | (apply WD.gT; exact rfl) | (apply WD.gF; exact rfl) | (apply WD.sT; exact rfl) | (apply WD.sF; exact rfl) | (apply WD.sU; exact rfl) | (apply WD.pure1; exact rfl) | (apply WD.load1; exact rfl; exact rfl; exact rfl) | (apply WD.store1; exact rfl; exact rfl; exact rfl) | (apply WD.new1; exact rfl) | (apply WD.clb; exact rfl; exact rfl; exact rfl; exact rfl; all_goals first | (intro h; exact absurd h (by decide)) | intro _) | (apply WD.cl0; exact rfl; exact rfl; exact rfl; exact rfl) | (apply WD.cl1; exact rfl; exact rfl; exact rfl; exact rfl) | (apply W.condT; exact rfl) | (apply W.condF; exact rfl) | (apply W.cond; exact rfl; all_goals intro _) | (apply WO.gtr; exact rfl; exact rfl; all_goals first | (intro _; exfalso; omega) | intro _) | (apply WO.neq; exact rfl; exact rfl; all_goals first | (intro _; exfalso; omega) | intro _) | (apply WO.mul; exact rfl; exact rfl; omega) | (apply WO.cll; exact rfl; exact rfl; first | exact q70 _ | exact C.c91 _ _ _ | exact C.c121 _ _ _ _ | exact q3 _) | (apply WD.cl0; exact rfl; exact rfl; exact rfl; first | exact q70 _ | exact C.c91 _ _ _ | exact C.c121 _ _ _ _ | exact q3 _) | (apply WO.sneq; exact rfl; exact rfl; all_goals first | (intro h; exact absurd h (by decide)) | (intro h; exact absurd rfl h) | (intro h; contradiction) | intro _) | (apply WO.clb; exact rfl; exact rfl; exact rfl; all_goals first | (intro h; exact absurd h (by decide)) | intro _) | (apply WO.cll; exact rfl; exact rfl; exact rfl) | (apply WO.hlv; exact rfl; exact rfl; exact rfl) | (apply WO.hpv; exact rfl; exact rfl; exact rfl) | (apply WO.hnv; exact rfl; exact rfl; exact rfl) | (apply WO.pl; exact rfl; exact rfl) | (apply WO.pp; exact rfl; exact rfl)
    all_goals exact ⟨.inr rfl, rfl, _, rfl, rfl, rfl⟩
end Go.Ab.Ch5


/-
  Own work: images: Stretched of good images; the same lists, the same images.
-/
namespace Go.Ab.Ch5
variable {M : Mach} {cap : Option Nat} {h : Heap} {b n : Nat}

theorem full_cells {X : List Str} {b n : Nat} {c : Option Nat} {H : Heap} (hb : H.at b = some (.cells (strs X) 9)) (hn : X.length = n) : sliceCells H (.sl b 0 n 1 c) = some (strs X, X.length) := by
  subst hn
  have e : cut (strs X) 0 (X.length * 1) = some (strs X) := by
    rw [Nat.mul_one]
    have h1 : ((strs X).drop 0).take X.length = strs X := by rw [List.drop_zero, strs_take, List.take_length]
    unfold cut
    rw [h1, if_pos (by rw [strs_len])]
  simp only [sliceCells, hb, e, Option.map_some]
theorem outw_end4 {hp : Heap} {o : AV} {acc : List Str} {rows : Int} (h : OutW hp o acc) : OutW (if (AV.tup [.agg [.int .i64 rows, o], .int .i64 0]).top ≤ 0 then [] else hp) o acc := by
  rcases h with ⟨h1, rfl⟩ | ⟨c, h0, rfl, h2⟩
  · exact .inl ⟨h1, rfl⟩
  · refine .inr ⟨c, h0, rfl, ?_⟩
    rw [if_neg (by simp [AV.top, topL])]
    exact h2
theorem loop66 (C : C66 M) (rows : Int) (t : Nat) (h1 : 1 ≤ t) (ht : t ≤ 4096) (l : List Str) (hl : l.length < 1000000) (hB : l.length * t < 1000000) (a0 a4 a5 : AV) {Q : Ex → StW → Prop} : ∀ (r i : Nat), i + r = l.length → ∀ (o a7 : AV) (acc : List Str) (hp : Heap) (lo : List (Nat × AV)) (wr : List Nat), acc = strL t (l.take i) → OutW hp o acc → hp.at 0 = some (.cells [.int .i64 rows, .vs (strs l) l.length cap] 24) → hp.at 1 = some (.cells [.int .i64 0, .nilsl] 24) → (∀ c n, o = .sl c 0 n 1 none → 2 ≤ c) → 2 ≤ hp.length →
    (∀ o a7 hp lo wr, OutW hp o (strL t l) → hp.at 0 = some (.cells [.int .i64 rows, .vs (strs l) l.length cap] 24) → hp.at 1 = some (.cells [.int .i64 0, .nilsl] 24) → (∀ c n, o = .sl c 0 n 1 none → 2 ≤ c) → Q (.exit 0) ⟨⟨[a0, .int .i64 t, .ptr 0 0, .ptr 1 0, a4, a5, o, a7, .vs (strs l) l.length cap, .int .i64 l.length, .int .i64 l.length], lo, hp, []⟩, wr⟩) →
    W M (.loop b66_0) ⟨⟨[a0, .int .i64 t, .ptr 0 0, .ptr 1 0, a4, a5, o, a7, .vs (strs l) l.length cap, .int .i64 l.length, .int .i64 i], lo, hp, []⟩, wr⟩ Q := by
  intro r
  induction r with
  | zero =>
    intro i hi o a7 acc hp lo wr hacc ho g0 g1 hne hlen hQ
    obtain rfl : i = l.length := by omega
    rw [List.take_length] at hacc
    subst hacc
    refine W.loop ?_
    unfold b66_0
    repeat' first | apply W.seq | apply SQn | apply W.region | apply WO.nil | apply W.block | apply W.ret | apply W.exit | apply W.skip | apply SQr | apply SQe | apply BQn | apply BQr | apply BQe | (apply BQo; exact rfl) | apply LQe | apply LQr | (apply W.condT; exact rfl) | (apply W.condF; exact rfl) | (apply W.cond; exact rfl; all_goals intro _) | (apply WO.lss; exact rfl; exact rfl; all_goals first | (intro _; exfalso; omega) | intro _) | (apply WO.add; exact rfl; exact rfl; omega) | (apply WO.iav; exact rfl; exact rfl; omega) | (apply WO.ias; exact rfl; exact rfl; omega) | (apply WO.lda; exact rfl; exact fun _ => rfl; (first | omega | (simp only [List.length_set]; omega) | (simp; omega)); decide; exact rfl; case ia => infer_instance) | (apply WO.lsa; exact rfl; (first | exact rfl | assumption | exact at_new | (apply at_old; assumption) | (apply at_put; first | assumption | (simp only [put_length]; assumption))); exact fun _ => rfl; (first | omega | (simp only [List.length_set]; omega) | (simp; omega)); decide; exact rfl; case ia => infer_instance) | (apply WO.clb; exact rfl; exact rfl; exact rfl; all_goals first | (intro h; exact absurd h (by decide)) | intro _) | (apply WO.cll; exact rfl; exact rfl; exact rfl) | (apply WO.hlv; exact rfl; exact rfl; exact rfl) | (apply WO.hpv; exact rfl; exact rfl; exact rfl) | (apply WO.hnv; exact rfl; exact rfl; exact rfl) | (apply WO.pl; exact rfl; exact rfl) | (apply WO.pp; exact rfl; exact rfl)
    exact hQ _ _ _ _ _ ho g0 g1 hne
  | succ r ih =>
    intro i hi o a7 acc hp lo wr hacc ho g0 g1 hne hlen hQ
    have f1 : ((i : Int)).toNat = i := Int.toNat_natCast i
    have q150 := C.c150 hp l[((i : Int)).toNat]! t h1 ht
    have hs : sliceCells ((hp ++ [some (Blk.cells [.str l[((i : Int)).toNat]!] 9)]) ++ [some (.cells (strs (List.replicate t l[((i : Int)).toNat]!)) 9)]) (.sl (hp ++ [some (Blk.cells [.str l[((i : Int)).toNat]!] 9)]).length 0 t 1 (some t)) = some (strs (List.replicate t l[((i : Int)).toNat]!), (List.replicate t l[((i : Int)).toNat]!).length) := full_cells at_new (by simp)
    have hb := strL_lt (t := t) (l := l) (i := i) (by omega) hB
    rw [← hacc] at hb
    refine W.loop ?_
    unfold b66_0
    repeat' first | apply W.seq | apply SQn | apply W.region | apply WO.nil | apply W.block | apply W.ret | apply W.exit | apply W.skip | apply SQr | apply SQe | apply BQn | apply BQr | apply BQe | (apply BQo; exact rfl) | apply LQe | apply LQr | (apply W.condT; exact rfl) | (apply W.condF; exact rfl) | (apply W.cond; exact rfl; all_goals intro _) | (apply WO.lss; exact rfl; exact rfl; all_goals first | (intro _; exfalso; omega) | intro _) | (apply WO.add; exact rfl; exact rfl; omega) | (apply WO.cll; exact rfl; exact rfl; first | exact q150) | (refine OutW.pushs (ho.old.old) rfl rfl hs (by simp; omega) (by simp; omega) (fun H w' o' ho' hk hk3 hk4 => ?_)) | (apply WO.iav; exact rfl; exact rfl; omega) | (apply WO.ias; exact rfl; exact rfl; omega) | (apply WO.lda; exact rfl; exact fun _ => rfl; (first | omega | (simp only [List.length_set]; omega) | (simp; omega)); decide; exact rfl; case ia => infer_instance) | (apply WO.lsa; exact rfl; (first | exact rfl | assumption | exact at_new | (apply at_old; assumption) | (apply at_put; first | assumption | (simp only [put_length]; assumption))); exact fun _ => rfl; (first | omega | (simp only [List.length_set]; omega) | (simp; omega)); decide; exact rfl; case ia => infer_instance) | (apply WO.clb; exact rfl; exact rfl; exact rfl; all_goals first | (intro h; exact absurd h (by decide)) | intro _) | (apply WO.cll; exact rfl; exact rfl; exact rfl) | (apply WO.hlv; exact rfl; exact rfl; exact rfl) | (apply WO.hpv; exact rfl; exact rfl; exact rfl) | (apply WO.hnv; exact rfl; exact rfl; exact rfl) | (apply WO.pl; exact rfl; exact rfl) | (apply WO.pp; exact rfl; exact rfl)
    rw [f1, hacc, ← strL_take (by omega)] at ho'
    simp only [List.length_append, List.length_singleton] at hk3 hk4
    exact LQn (ih (i + 1) (by omega) o' _ _ H _ _ rfl ho' (hk 0 _ (fun c n hc => by have := hne c n hc; omega) (at_old (at_old g0))) (hk 1 _ (fun c n hc => by have := hne c n hc; omega) (at_old (at_old g1))) (fun c n hc => by have := hk3 c n hc; omega) (by omega) hQ)
theorem w66 (C : C66 M) (rows : Int) (l : List Str) (t : Nat) (hL : ∀ s ∈ l, s.length < 4611686018427387904) (hl : l.length < 1000000) (h1 : 1 ≤ t) (ht : t ≤ 4096) (hE : strE rows l t = 0) : ∃ o hh, OutW hh o (strL t l) ∧ Run M 66 [.agg [.int .i64 rows, .vs (strs l) l.length cap], .int .i64 t] [] ⟨.tup [.agg [.int .i64 rows, o], .int .i64 0], hh, []⟩ := by
  have q70 := fun h => C.c70 rows l cap h hL hl
  have q := C.q3 [some (.cells [.int .i64 rows, .vs (strs l) l.length cap] 24), some (.cells [.int .i64 0, .nilsl] 24)] (imgE rows l) (if outI t 1 4096 = true then 3 else 0) (if false = true then 5 else 0)
  have ho : outI (t : Int) 1 4096 = false := by simp [outI]; omega
  have hI : imgE rows l = 0 := by
    unfold strE at hE
    split at hE
    · rename_i h; exact absurd hE h
    · rename_i h; exact Decidable.not_not.1 h
  have hP : ¬ (l.length : Int) * t > 4096 := by
    unfold strE at hE
    rw [if_neg (fun h => h hI), ho] at hE
    simp only [Bool.false_eq_true, if_false] at hE
    split at hE
    · exact absurd hE (by decide)
    · assumption
  have hP0 : (0 : Int) ≤ (l.length : Int) * t := Int.mul_nonneg (by omega) (by omega)
  have hB : l.length * t < 1000000 := by
    have : ((l.length * t : Nat) : Int) = (l.length : Int) * t := by simp
    omega
  rw [hI, ho] at q
  rw [hI] at q70
  have ev : firstNZ [0, if false = true then 3 else 0, if false = true then 5 else 0] = 0 := rfl
  rw [ev] at q
  have q121 := fun h => C.c121 t 1 4096 h
  rw [ho] at q121
  obtain ⟨v, hh, ⟨o, rfl, ho⟩, hr⟩ := run_ofE (M := M) (f := 66) (ars := [.agg [.int .i64 rows, .vs (strs l) l.length cap], .int .i64 t]) (P := fun v hh => ∃ o, v = .tup [.agg [.int .i64 rows, o], .int .i64 0] ∧ OutW hh o (strL t l)) (by rw [C.ft]; exact ft66) (by simp) (by
    unfold b66
    simp only [List.map_cons, List.map_nil, List.getElem?_cons_zero, List.getElem?_cons_succ, List.getElem?_nil, Option.getD_some, Option.getD_none]
    repeat' first | apply W.seq | apply SQn | apply W.region | apply WO.nil | apply W.block | apply W.ret | apply W.exit | apply W.skip | apply SQr | apply SQe | apply BQn | apply BQr | apply BQe | (apply BQo; exact rfl) | apply LQe | apply LQr | (apply W.drawro; exact rfl) | apply W.draw | apply WD.nil | (apply WD.gT; exact rfl) | (apply WD.gF; exact rfl) | (apply WD.sT; exact rfl) | (apply WD.sF; exact rfl) | (apply WD.sU; exact rfl) | (apply WD.pure1; exact rfl) | (apply WD.load1; exact rfl; exact rfl; exact rfl) | (apply WD.store1; exact rfl; exact rfl; exact rfl) | (apply WD.new1; exact rfl) | (apply WD.clb; exact rfl; exact rfl; exact rfl; exact rfl; all_goals first | (intro h; exact absurd h (by decide)) | intro _) | (apply WD.cl0; exact rfl; exact rfl; exact rfl; exact rfl) | (apply WD.cl1; exact rfl; exact rfl; exact rfl; exact rfl) | (apply W.condT; exact rfl) | (apply W.condF; exact rfl) | (apply W.cond; exact rfl; all_goals intro _) | (apply WO.gtr; exact rfl; exact rfl; all_goals first | (intro _; exfalso; omega) | intro _) | (apply WO.neq; exact rfl; exact rfl; all_goals first | (intro _; exfalso; omega) | intro _) | (apply WO.mul; exact rfl; exact rfl; omega) | (apply WO.cll; exact rfl; exact rfl; first | exact q70 _ | exact C.c91 _ _ _ | exact q121 _ | exact q) | (apply WD.cl0; exact rfl; exact rfl; exact rfl; first | exact q70 _ | exact C.c91 _ _ _ | exact q121 _ | exact q) | (apply WO.sneq; exact rfl; exact rfl; all_goals first | (intro h; exact absurd h (by decide)) | (intro h; exact absurd rfl h) | (intro h; contradiction) | intro _) | (apply WO.clb; exact rfl; exact rfl; exact rfl; all_goals first | (intro h; exact absurd h (by decide)) | intro _) | (apply WO.cll; exact rfl; exact rfl; exact rfl) | (apply WO.hlv; exact rfl; exact rfl; exact rfl) | (apply WO.hpv; exact rfl; exact rfl; exact rfl) | (apply WO.hnv; exact rfl; exact rfl; exact rfl) | (apply WO.pl; exact rfl; exact rfl) | (apply WO.pp; exact rfl; exact rfl)
    refine loop66 (cap := cap) C rows t h1 ht l hl hB _ _ _ l.length 0 (by omega) .nilsl _ [] _ _ _ (by simp [strL]) (.inl ⟨rfl, rfl⟩) rfl rfl (by intro c n hc; cases hc) (by simp) (fun o a7 hp lo wr ho g0 g1 hne => ?_)
    have hone : [AV.int .i64 rows, o].all oneA = true := by rw [List.all_cons, List.all_cons, ho.one.1]; rfl
    have hfill : fillA [AV.int .i64 0, .nilsl] [(0, 1, .int .i64 rows), (1, 1, o)] = some [.int .i64 rows, o] := by
      rcases ho with ⟨_, e⟩ | ⟨c, _, e, _⟩ <;> (rw [e]; rfl)
    have hbuild : ∀ (pe : List AV) (lo : List (Nat × AV)) (hp : Heap), pureA (St.mk pe ((43, o) :: (42, AV.int .i64 rows) :: lo) hp []) (.build [.int .i64 0, .nilsl] [(0, 1, .l 42), (1, 1, .l 43)]) = some (.agg [.int .i64 rows, o]) := fun pe lo hp => by
      have e1 : (St.mk pe ((43, o) :: (42, AV.int .i64 rows) :: lo) hp []).opd (.l 42) = some (.int .i64 rows) := rfl
      have e2 : (St.mk pe ((43, o) :: (42, AV.int .i64 rows) :: lo) hp []).opd (.l 43) = some o := rfl
      simp only [pureA, St.parts, e1, e2, hfill, Option.map_some]
    repeat' first | (apply WO.ldb; exact rfl; exact g0; exact rfl) | (apply WO.pl; exact hbuild _ _ _; exact rfl) | (apply WO.stw; exact rfl; exact rfl; exact g1; exact ⟨rfl, rfl, hone⟩) | apply W.seq | apply SQn | apply W.region | apply WO.nil | apply W.block | apply W.ret | apply W.exit | apply W.skip | apply SQr | apply SQe | apply BQn | apply BQr | apply BQe | (apply BQo; exact rfl) | apply LQe | apply LQr | (apply W.drawro; exact rfl) | apply W.draw | apply WD.nil | (apply WD.gT; exact rfl) | (apply WD.gF; exact rfl) | (apply WD.sT; exact rfl) | (apply WD.sF; exact rfl) | (apply WD.sU; exact rfl) | (apply WD.pure1; exact rfl) | (apply WD.load1; exact rfl; exact rfl; exact rfl) | (apply WD.store1; exact rfl; exact rfl; exact rfl) | (apply WD.new1; exact rfl) | (apply WD.clb; exact rfl; exact rfl; exact rfl; exact rfl; all_goals first | (intro h; exact absurd h (by decide)) | intro _) | (apply WD.cl0; exact rfl; exact rfl; exact rfl; exact rfl) | (apply WD.cl1; exact rfl; exact rfl; exact rfl; exact rfl) | (apply W.condT; exact rfl) | (apply W.condF; exact rfl) | (apply W.cond; exact rfl; all_goals intro _) | (apply WO.gtr; exact rfl; exact rfl; all_goals first | (intro _; exfalso; omega) | intro _) | (apply WO.neq; exact rfl; exact rfl; all_goals first | (intro _; exfalso; omega) | intro _) | (apply WO.mul; exact rfl; exact rfl; omega) | (apply WO.sneq; exact rfl; exact rfl; all_goals first | (intro h; exact absurd h (by decide)) | (intro h; exact absurd rfl h) | (intro h; contradiction) | intro _) | (apply WO.clb; exact rfl; exact rfl; exact rfl; all_goals first | (intro h; exact absurd h (by decide)) | intro _) | (apply WO.cll; exact rfl; exact rfl; exact rfl) | (apply WO.hlv; exact rfl; exact rfl; exact rfl) | (apply WO.hpv; exact rfl; exact rfl; exact rfl) | (apply WO.hnv; exact rfl; exact rfl; exact rfl) | (apply WO.pl; exact rfl; exact rfl) | (apply WO.pp; exact rfl; exact rfl)
    refine ⟨.inr rfl, rfl, [.agg [.int .i64 rows, o], .int .i64 0], ?_, o, rfl, outw_end4 (ho.put fun c n hc => by have := hne c n hc; omega)⟩
    simp only [resultsA, St.opd, readAt]
    simp only [List.set_cons_succ, List.set_cons_zero, List.getElem?_cons_succ, List.getElem?_cons_zero, Option.bind_some, at_put (at_lt g1)]
    rfl)
  exact ⟨o, hh, ho, hr⟩

/-! The same. -/
theorem take_snocS {l : List Str} {i : Nat} (h : i < l.length) : l.take (i + 1) = l.take i ++ [l[i]!] := by
  rw [List.take_succ_eq_append_getElem h, getElem!_pos l i h]
theorem loop79 (l m : List Str) (hlm : l.length = m.length) (hl : l.length < 4611686018427387904) (c1 c2 : Option Nat) {Q : Ex → StW → Prop} (h1 : l = m → ∀ lo wr, Q (.exit 0) ⟨⟨[.vs (strs l) l.length c1, .vs (strs m) m.length c2, .bool false, .int .i64 l.length], lo, [], []⟩, wr⟩)
    (h2 : l ≠ m → ∀ i lo wr, Q .ret ⟨⟨[.vs (strs l) l.length c1, .vs (strs m) m.length c2, .bool false, i], lo, [], []⟩, wr⟩) : ∀ (r i : Nat), i + r = l.length → l.take i = m.take i → ∀ (lo : List (Nat × AV)) (wr : List Nat),
    W M (.loop b79_0) ⟨⟨[.vs (strs l) l.length c1, .vs (strs m) m.length c2, .bool false, .int .i64 i], lo, [], []⟩, wr⟩ Q
  | 0, i, hi, he, lo, wr => by
    obtain rfl : i = l.length := by omega
    rw [List.take_length, hlm, List.take_length] at he
    refine W.loop ?_
    unfold b79_0
    repeat' first | apply W.seq | apply SQn | apply W.region | apply WO.nil | apply W.block | apply W.ret | apply W.exit | apply W.skip | apply SQr | apply SQe | apply BQn | apply BQr | apply BQe | (apply BQo; exact rfl) | apply LQe | apply LQr | (apply W.drawro; exact rfl) | apply W.draw | apply WD.nil | (apply WD.gT; exact rfl) | (apply WD.gF; exact rfl) | (apply WD.sT; exact rfl) | (apply WD.sF; exact rfl) | (apply WD.sU; exact rfl) | (apply WD.pure1; exact rfl) | (apply WD.load1; exact rfl; exact rfl; exact rfl) | (apply W.condT; exact rfl) | (apply W.condF; exact rfl) | (apply W.cond; exact rfl; all_goals intro _) | (apply WO.lss; exact rfl; exact rfl; all_goals first | (intro _; exfalso; omega) | intro _) | (apply WO.neq; exact rfl; exact rfl; all_goals first | (intro _; exfalso; omega) | intro _) | (apply WO.add; exact rfl; exact rfl; omega) | (apply WO.iav; exact rfl; exact rfl; omega) | (apply WO.ias; exact rfl; exact rfl; omega) | (apply WO.lda; exact rfl; exact fun _ => rfl; (first | omega | (simp only [List.length_set]; omega) | (simp; omega)); decide; exact rfl; case ia => infer_instance) | (apply WO.lsa; exact rfl; (first | exact rfl | assumption | exact at_new | (apply at_old; assumption) | (apply at_put; first | assumption | (simp only [put_length]; assumption))); exact fun _ => rfl; (first | omega | (simp only [List.length_set]; omega) | (simp; omega)); decide; exact rfl; case ia => infer_instance) | (apply WO.sneq; exact rfl; exact rfl; all_goals first | (intro h; exact absurd h (by decide)) | (intro h; exact absurd rfl h) | (intro h; contradiction) | intro _) | (apply WO.hlv; exact rfl; exact rfl; exact rfl) | (apply WO.hpv; exact rfl; exact rfl; exact rfl) | (apply WO.hnv; exact rfl; exact rfl; exact rfl) | (apply WO.pl; exact rfl; exact rfl) | (apply WO.pp; exact rfl; exact rfl)
    · exact h1 he _ _
  | r + 1, i, hi, he, lo, wr => by
    have ei : ((i : Int)).toNat = i := by omega
    have b1 : ((i : Int)).toNat < l.length := by omega
    have b2 : ((i : Int)).toNat < m.length := by omega
    refine W.loop ?_
    unfold b79_0
    repeat' first | apply W.seq | apply SQn | apply W.region | apply WO.nil | apply W.block | apply W.ret | apply W.exit | apply W.skip | apply SQr | apply SQe | apply BQn | apply BQr | apply BQe | (apply BQo; exact rfl) | apply LQe | apply LQr | (apply W.drawro; exact rfl) | apply W.draw | apply WD.nil | (apply WD.gT; exact rfl) | (apply WD.gF; exact rfl) | (apply WD.sT; exact rfl) | (apply WD.sF; exact rfl) | (apply WD.sU; exact rfl) | (apply WD.pure1; exact rfl) | (apply WD.load1; exact rfl; exact rfl; exact rfl) | (apply W.condT; exact rfl) | (apply W.condF; exact rfl) | (apply W.cond; exact rfl; all_goals intro _) | (apply WO.lss; exact rfl; exact rfl; all_goals first | (intro _; exfalso; omega) | intro _) | (apply WO.neq; exact rfl; exact rfl; all_goals first | (intro _; exfalso; omega) | intro _) | (apply WO.add; exact rfl; exact rfl; omega) | (apply WO.iav; exact rfl; exact rfl; omega) | (apply WO.ias; exact rfl; exact rfl; omega) | (apply WO.lda; exact rfl; exact fun _ => rfl; (first | omega | (simp only [List.length_set]; omega) | (simp; omega)); decide; exact rfl; case ia => infer_instance) | (apply WO.lsa; exact rfl; (first | exact rfl | assumption | exact at_new | (apply at_old; assumption) | (apply at_put; first | assumption | (simp only [put_length]; assumption))); exact fun _ => rfl; (first | omega | (simp only [List.length_set]; omega) | (simp; omega)); decide; exact rfl; case ia => infer_instance) | (apply WO.sneq; exact rfl; exact rfl; all_goals first | (intro h; exact absurd h (by decide)) | (intro h; exact absurd rfl h) | (intro h; contradiction) | intro _) | (apply WO.hlv; exact rfl; exact rfl; exact rfl) | (apply WO.hpv; exact rfl; exact rfl; exact rfl) | (apply WO.hnv; exact rfl; exact rfl; exact rfl) | (apply WO.pl; exact rfl; exact rfl) | (apply WO.pp; exact rfl; exact rfl)
    · rename_i hne
      exact h2 (fun e => hne (by rw [e])) _ _ _
    · rename_i heq
      refine LQn (loop79 l m hlm hl c1 c2 h1 h2 r (i + 1) (by omega) ?_ _ _)
      rw [take_snocS (by omega), take_snocS (by omega), he]
      rw [ei] at heq
      rw [heq]
theorem w79 (hft : M.FT = FT) (l m : List Str) (c1 c2 : Option Nat) (hl : l.length < 4611686018427387904) : Run M 79 [.vs (strs l) l.length c1, .vs (strs m) m.length c2] [] ⟨.bool (decide (l = m)), [], []⟩ := by
  refine run_of_W (by rw [hft]; exact ft79) (by simp) ?_
  unfold b79
  by_cases hlm : l.length = m.length
  · repeat' first | apply W.seq | apply SQn | apply W.region | apply WO.nil | apply W.block | apply W.ret | apply W.exit | apply W.skip | apply SQr | apply SQe | apply BQn | apply BQr | apply BQe | (apply BQo; exact rfl) | apply LQe | apply LQr | (apply W.condT; exact rfl) | (apply W.condF; exact rfl) | (apply W.cond; exact rfl; all_goals intro _) | (apply WO.neq; exact rfl; exact rfl; all_goals first | (intro _; exfalso; omega) | intro _) | (apply WO.sneq; exact rfl; exact rfl; all_goals first | (intro h; exact absurd h (by decide)) | (intro h; exact absurd rfl h) | (intro h; contradiction) | intro _) | (apply WO.pl; exact rfl; exact rfl) | (apply WO.pp; exact rfl; exact rfl)
    refine loop79 l m hlm hl c1 c2 (fun e lo wr => ?_) (fun e i lo wr => ?_) l.length 0 (by omega) rfl _ _
    · repeat' first | apply W.seq | apply SQn | apply W.region | apply WO.nil | apply W.block | apply W.ret | apply W.exit | apply W.skip | apply SQr | apply SQe | apply BQn | apply BQr | apply BQe | (apply BQo; exact rfl) | apply LQe | apply LQr | (apply W.condT; exact rfl) | (apply W.condF; exact rfl) | (apply W.cond; exact rfl; all_goals intro _) | (apply WO.neq; exact rfl; exact rfl; all_goals first | (intro _; exfalso; omega) | intro _) | (apply WO.sneq; exact rfl; exact rfl; all_goals first | (intro h; exact absurd h (by decide)) | (intro h; exact absurd rfl h) | (intro h; contradiction) | intro _) | (apply WO.pl; exact rfl; exact rfl) | (apply WO.pp; exact rfl; exact rfl)
      exact ⟨.inr rfl, rfl, _, rfl, by rw [decide_eq_true e]; rfl, rfl⟩
    · repeat' first | apply W.seq | apply SQn | apply W.region | apply WO.nil | apply W.block | apply W.ret | apply W.exit | apply W.skip | apply SQr | apply SQe | apply BQn | apply BQr | apply BQe | (apply BQo; exact rfl) | apply LQe | apply LQr | (apply W.condT; exact rfl) | (apply W.condF; exact rfl) | (apply W.cond; exact rfl; all_goals intro _) | (apply WO.neq; exact rfl; exact rfl; all_goals first | (intro _; exfalso; omega) | intro _) | (apply WO.sneq; exact rfl; exact rfl; all_goals first | (intro h; exact absurd h (by decide)) | (intro h; exact absurd rfl h) | (intro h; contradiction) | intro _) | (apply WO.pl; exact rfl; exact rfl) | (apply WO.pp; exact rfl; exact rfl)
      exact ⟨.inr rfl, rfl, _, rfl, by rw [decide_eq_false e]; rfl, rfl⟩
  · repeat' first | apply W.seq | apply SQn | apply W.region | apply WO.nil | apply W.block | apply W.ret | apply W.exit | apply W.skip | apply SQr | apply SQe | apply BQn | apply BQr | apply BQe | (apply BQo; exact rfl) | apply LQe | apply LQr | (apply W.condT; exact rfl) | (apply W.condF; exact rfl) | (apply W.cond; exact rfl; all_goals intro _) | (apply WO.neq; exact rfl; exact rfl; all_goals first | (intro _; exfalso; omega) | intro _) | (apply WO.sneq; exact rfl; exact rfl; all_goals first | (intro h; exact absurd h (by decide)) | (intro h; exact absurd rfl h) | (intro h; contradiction) | intro _) | (apply WO.pl; exact rfl; exact rfl) | (apply WO.pp; exact rfl; exact rfl)
    exact ⟨.inr rfl, rfl, _, rfl, by rw [decide_eq_false (fun e => hlm (by rw [e]))]; rfl, rfl⟩
/-- The two functions that say what a law says: lists, images. -/
def wordsB (l m : List Str) (e bad : Int) : Bool := if bad ≠ 0 then decide (l.length = 0 ∧ e = bad) else decide (e = 0 ∧ l = m)
def imageB (r : Int) (l : List Str) (r' : Int) (m : List Str) (e bad : Int) : Bool := if bad ≠ 0 then decide (r = 0 ∧ l.length = 0 ∧ e = bad) else decide (e = 0 ∧ r = r' ∧ l = m)
theorem w72 (hft : M.FT = FT) (l m : List Str) (e bad : Int) (c1 c2 : Option Nat) (h79 : ∀ h, M.ext 79 [.vs (strs l) l.length c1, .vs (strs m) m.length c2] h = some ⟨.bool (decide (l = m)), h, []⟩) :
    Run M 72 [.vs (strs l) l.length c1, .int .i64 e, .int .i64 bad, .vs (strs m) m.length c2] [] ⟨.bool (wordsB l m e bad), [], []⟩ := by
  unfold wordsB
  by_cases hb : bad = 0
  · subst hb
    refine run_of_W (by rw [hft]; exact ft72) (by simp) ?_
    unfold b72
    by_cases hlm : l = m
    · rw [decide_eq_true hlm] at h79
      repeat' first | apply W.seq | apply SQn | apply W.region | apply WO.nil | apply W.block | apply W.ret | apply W.exit | apply W.skip | apply SQr | apply SQe | apply BQn | apply BQr | apply BQe | (apply BQo; exact rfl) | apply LQe | apply LQr | (apply W.condT; exact rfl) | (apply W.condF; exact rfl) | (apply W.cond; exact rfl; all_goals intro _) | (apply WO.gT; exact rfl) | (apply WO.gF; exact rfl) | (apply WO.sT; exact rfl) | (apply WO.sF; exact rfl) | (apply WO.sU; exact rfl) | (apply WO.eql; exact rfl; exact rfl; all_goals first | (intro _; exfalso; omega) | intro _) | (apply WO.neq; exact rfl; exact rfl; all_goals first | (intro _; exfalso; omega) | intro _) | (apply WO.pkT; exact rfl; exact rfl) | (apply WO.pkF; exact rfl; exact rfl) | (apply WO.cll; exact rfl; exact rfl; first | exact h79 _) | (apply WO.seql; exact rfl; exact rfl; all_goals first | (intro h; exact absurd h (by decide)) | (intro h; exact absurd rfl h) | (intro h; contradiction) | intro _) | (apply WO.sneq; exact rfl; exact rfl; all_goals first | (intro h; exact absurd h (by decide)) | (intro h; exact absurd rfl h) | (intro h; contradiction) | intro _) | (apply WO.clb; exact rfl; exact rfl; exact rfl; all_goals first | (intro h; exact absurd h (by decide)) | intro _) | (apply WO.cll; exact rfl; exact rfl; exact rfl) | (apply WO.pl; exact rfl; exact rfl) | (apply WO.pp; exact rfl; exact rfl)
      all_goals exact ⟨.inr rfl, rfl, _, rfl, by simp [tupA, *], rfl⟩
    · rw [decide_eq_false hlm] at h79
      repeat' first | apply W.seq | apply SQn | apply W.region | apply WO.nil | apply W.block | apply W.ret | apply W.exit | apply W.skip | apply SQr | apply SQe | apply BQn | apply BQr | apply BQe | (apply BQo; exact rfl) | apply LQe | apply LQr | (apply W.condT; exact rfl) | (apply W.condF; exact rfl) | (apply W.cond; exact rfl; all_goals intro _) | (apply WO.gT; exact rfl) | (apply WO.gF; exact rfl) | (apply WO.sT; exact rfl) | (apply WO.sF; exact rfl) | (apply WO.sU; exact rfl) | (apply WO.eql; exact rfl; exact rfl; all_goals first | (intro _; exfalso; omega) | intro _) | (apply WO.neq; exact rfl; exact rfl; all_goals first | (intro _; exfalso; omega) | intro _) | (apply WO.pkT; exact rfl; exact rfl) | (apply WO.pkF; exact rfl; exact rfl) | (apply WO.cll; exact rfl; exact rfl; first | exact h79 _) | (apply WO.seql; exact rfl; exact rfl; all_goals first | (intro h; exact absurd h (by decide)) | (intro h; exact absurd rfl h) | (intro h; contradiction) | intro _) | (apply WO.sneq; exact rfl; exact rfl; all_goals first | (intro h; exact absurd h (by decide)) | (intro h; exact absurd rfl h) | (intro h; contradiction) | intro _) | (apply WO.clb; exact rfl; exact rfl; exact rfl; all_goals first | (intro h; exact absurd h (by decide)) | intro _) | (apply WO.cll; exact rfl; exact rfl; exact rfl) | (apply WO.pl; exact rfl; exact rfl) | (apply WO.pp; exact rfl; exact rfl)
      all_goals exact ⟨.inr rfl, rfl, _, rfl, by simp [tupA, *], rfl⟩
  · have hl0 : ((l.length : Int) = 0) = (l.length = 0) := by apply propext; omega
    rw [if_pos hb]
    refine run_of_W (by rw [hft]; exact ft72) (by simp) ?_
    unfold b72
    repeat' first | apply W.seq | apply SQn | apply W.region | apply WO.nil | apply W.block | apply W.ret | apply W.exit | apply W.skip | apply SQr | apply SQe | apply BQn | apply BQr | apply BQe | (apply BQo; exact rfl) | apply LQe | apply LQr | (apply W.condT; exact rfl) | (apply W.condF; exact rfl) | (apply W.cond; exact rfl; all_goals intro _) | (apply WO.gT; exact rfl) | (apply WO.gF; exact rfl) | (apply WO.sT; exact rfl) | (apply WO.sF; exact rfl) | (apply WO.sU; exact rfl) | (apply WO.eql; exact rfl; exact rfl; all_goals first | (intro _; exfalso; omega) | intro _) | (apply WO.neq; exact rfl; exact rfl; all_goals first | (intro _; exfalso; omega) | intro _) | (apply WO.pkT; exact rfl; exact rfl) | (apply WO.pkF; exact rfl; exact rfl) | (apply WO.seql; exact rfl; exact rfl; all_goals first | (intro h; exact absurd h (by decide)) | (intro h; exact absurd rfl h) | (intro h; contradiction) | intro _) | (apply WO.sneq; exact rfl; exact rfl; all_goals first | (intro h; exact absurd h (by decide)) | (intro h; exact absurd rfl h) | (intro h; contradiction) | intro _) | (apply WO.clb; exact rfl; exact rfl; exact rfl; all_goals first | (intro h; exact absurd h (by decide)) | intro _) | (apply WO.cll; exact rfl; exact rfl; exact rfl) | (apply WO.pl; exact rfl; exact rfl) | (apply WO.pp; exact rfl; exact rfl)
    all_goals refine ⟨.inr rfl, rfl, _, rfl, ?_, rfl⟩
    all_goals simp only [tupA]; congr 1; symm
    all_goals first | (rw [decide_eq_true_eq]; omega) | (rw [decide_eq_false_iff_not]; omega)
theorem w76 (hft : M.FT = FT) (r r' : Int) (l m : List Str) (c1 c2 : Option Nat) (h79 : ∀ h, M.ext 79 [.vs (strs l) l.length c1, .vs (strs m) m.length c2] h = some ⟨.bool (decide (l = m)), h, []⟩) :
    Run M 76 [.agg [.int .i64 r, .vs (strs l) l.length c1], .agg [.int .i64 r', .vs (strs m) m.length c2]] [] ⟨.bool (decide (r = r' ∧ l = m)), [], []⟩ := by
  refine run_of_W (by rw [hft]; exact ft76) (by simp) ?_
  unfold b76
  simp only [List.map_cons, List.map_nil, List.getElem?_cons_zero, List.getElem?_cons_succ, List.getElem?_nil, Option.getD_some, Option.getD_none]
  by_cases hlm : l = m
  · rw [decide_eq_true hlm] at h79
    repeat' first | apply W.seq | apply SQn | apply W.region | apply WO.nil | apply W.block | apply W.ret | apply W.exit | apply W.skip | apply SQr | apply SQe | apply BQn | apply BQr | apply BQe | (apply BQo; exact rfl) | apply LQe | apply LQr | (apply W.condT; exact rfl) | (apply W.condF; exact rfl) | (apply W.cond; exact rfl; all_goals intro _) | (apply WO.gT; exact rfl) | (apply WO.gF; exact rfl) | (apply WO.sT; exact rfl) | (apply WO.sF; exact rfl) | (apply WO.sU; exact rfl) | (apply WO.eql; exact rfl; exact rfl; all_goals first | (intro _; exfalso; omega) | intro _) | (apply WO.pkT; exact rfl; exact rfl) | (apply WO.pkF; exact rfl; exact rfl) | (apply WO.cll; exact rfl; exact rfl; first | exact h79 _) | (apply WO.seql; exact rfl; exact rfl; all_goals first | (intro h; exact absurd h (by decide)) | (intro h; exact absurd rfl h) | (intro h; contradiction) | intro _) | (apply WO.clb; exact rfl; exact rfl; exact rfl; all_goals first | (intro h; exact absurd h (by decide)) | intro _) | (apply WO.cll; exact rfl; exact rfl; exact rfl) | (apply WO.hlv; exact rfl; exact rfl; exact rfl) | (apply WO.hpv; exact rfl; exact rfl; exact rfl) | (apply WO.hnv; exact rfl; exact rfl; exact rfl) | (apply WO.pl; exact rfl; exact rfl) | (apply WO.pp; exact rfl; exact rfl)
    all_goals exact ⟨.inr rfl, rfl, _, rfl, by simp [tupA, *], rfl⟩
  · rw [decide_eq_false hlm] at h79
    repeat' first | apply W.seq | apply SQn | apply W.region | apply WO.nil | apply W.block | apply W.ret | apply W.exit | apply W.skip | apply SQr | apply SQe | apply BQn | apply BQr | apply BQe | (apply BQo; exact rfl) | apply LQe | apply LQr | (apply W.condT; exact rfl) | (apply W.condF; exact rfl) | (apply W.cond; exact rfl; all_goals intro _) | (apply WO.gT; exact rfl) | (apply WO.gF; exact rfl) | (apply WO.sT; exact rfl) | (apply WO.sF; exact rfl) | (apply WO.sU; exact rfl) | (apply WO.eql; exact rfl; exact rfl; all_goals first | (intro _; exfalso; omega) | intro _) | (apply WO.pkT; exact rfl; exact rfl) | (apply WO.pkF; exact rfl; exact rfl) | (apply WO.cll; exact rfl; exact rfl; first | exact h79 _) | (apply WO.seql; exact rfl; exact rfl; all_goals first | (intro h; exact absurd h (by decide)) | (intro h; exact absurd rfl h) | (intro h; contradiction) | intro _) | (apply WO.clb; exact rfl; exact rfl; exact rfl; all_goals first | (intro h; exact absurd h (by decide)) | intro _) | (apply WO.cll; exact rfl; exact rfl; exact rfl) | (apply WO.hlv; exact rfl; exact rfl; exact rfl) | (apply WO.hpv; exact rfl; exact rfl; exact rfl) | (apply WO.hnv; exact rfl; exact rfl; exact rfl) | (apply WO.pl; exact rfl; exact rfl) | (apply WO.pp; exact rfl; exact rfl)
    all_goals exact ⟨.inr rfl, rfl, _, rfl, by simp [tupA, *], rfl⟩
theorem w23 (hft : M.FT = FT) (r r' : Int) (l m : List Str) (e bad : Int) (c1 c2 : Option Nat) (h76 : ∀ h, M.ext 76 [.agg [.int .i64 r, .vs (strs l) l.length c1], .agg [.int .i64 r', .vs (strs m) m.length c2]] h = some ⟨.bool (decide (r = r' ∧ l = m)), h, []⟩) :
    Run M 23 [.agg [.int .i64 r, .vs (strs l) l.length c1], .int .i64 e, .int .i64 bad, .agg [.int .i64 r', .vs (strs m) m.length c2]] [] ⟨.bool (imageB r l r' m e bad), [], []⟩ := by
  unfold imageB
  by_cases hb : bad = 0
  · subst hb
    refine run_of_W (by rw [hft]; exact ft23) (by simp) ?_
    unfold b23
    simp only [List.map_cons, List.map_nil, List.getElem?_cons_zero, List.getElem?_cons_succ, List.getElem?_nil, Option.getD_some, Option.getD_none]
    by_cases hlm : r = r' ∧ l = m
    · rw [decide_eq_true hlm] at h76
      repeat' first | apply W.seq | apply SQn | apply W.region | apply WO.nil | apply W.block | apply W.ret | apply W.exit | apply W.skip | apply SQr | apply SQe | apply BQn | apply BQr | apply BQe | (apply BQo; exact rfl) | apply LQe | apply LQr | (apply W.condT; exact rfl) | (apply W.condF; exact rfl) | (apply W.cond; exact rfl; all_goals intro _) | (apply WO.gT; exact rfl) | (apply WO.gF; exact rfl) | (apply WO.sT; exact rfl) | (apply WO.sF; exact rfl) | (apply WO.sU; exact rfl) | (apply WO.eql; exact rfl; exact rfl; all_goals first | (intro _; exfalso; omega) | intro _) | (apply WO.neq; exact rfl; exact rfl; all_goals first | (intro _; exfalso; omega) | intro _) | (apply WO.pkT; exact rfl; exact rfl) | (apply WO.pkF; exact rfl; exact rfl) | (apply WO.cll; exact rfl; exact rfl; first | exact h76 _) | (apply WO.seql; exact rfl; exact rfl; all_goals first | (intro h; exact absurd h (by decide)) | (intro h; exact absurd rfl h) | (intro h; contradiction) | intro _) | (apply WO.sneq; exact rfl; exact rfl; all_goals first | (intro h; exact absurd h (by decide)) | (intro h; exact absurd rfl h) | (intro h; contradiction) | intro _) | (apply WO.clb; exact rfl; exact rfl; exact rfl; all_goals first | (intro h; exact absurd h (by decide)) | intro _) | (apply WO.cll; exact rfl; exact rfl; exact rfl) | (apply WO.hlv; exact rfl; exact rfl; exact rfl) | (apply WO.hpv; exact rfl; exact rfl; exact rfl) | (apply WO.hnv; exact rfl; exact rfl; exact rfl) | (apply WO.pl; exact rfl; exact rfl) | (apply WO.pp; exact rfl; exact rfl)
      all_goals exact ⟨.inr rfl, rfl, _, rfl, by simp [tupA, *], rfl⟩
    · rw [decide_eq_false hlm] at h76
      repeat' first | apply W.seq | apply SQn | apply W.region | apply WO.nil | apply W.block | apply W.ret | apply W.exit | apply W.skip | apply SQr | apply SQe | apply BQn | apply BQr | apply BQe | (apply BQo; exact rfl) | apply LQe | apply LQr | (apply W.condT; exact rfl) | (apply W.condF; exact rfl) | (apply W.cond; exact rfl; all_goals intro _) | (apply WO.gT; exact rfl) | (apply WO.gF; exact rfl) | (apply WO.sT; exact rfl) | (apply WO.sF; exact rfl) | (apply WO.sU; exact rfl) | (apply WO.eql; exact rfl; exact rfl; all_goals first | (intro _; exfalso; omega) | intro _) | (apply WO.neq; exact rfl; exact rfl; all_goals first | (intro _; exfalso; omega) | intro _) | (apply WO.pkT; exact rfl; exact rfl) | (apply WO.pkF; exact rfl; exact rfl) | (apply WO.cll; exact rfl; exact rfl; first | exact h76 _) | (apply WO.seql; exact rfl; exact rfl; all_goals first | (intro h; exact absurd h (by decide)) | (intro h; exact absurd rfl h) | (intro h; contradiction) | intro _) | (apply WO.sneq; exact rfl; exact rfl; all_goals first | (intro h; exact absurd h (by decide)) | (intro h; exact absurd rfl h) | (intro h; contradiction) | intro _) | (apply WO.clb; exact rfl; exact rfl; exact rfl; all_goals first | (intro h; exact absurd h (by decide)) | intro _) | (apply WO.cll; exact rfl; exact rfl; exact rfl) | (apply WO.hlv; exact rfl; exact rfl; exact rfl) | (apply WO.hpv; exact rfl; exact rfl; exact rfl) | (apply WO.hnv; exact rfl; exact rfl; exact rfl) | (apply WO.pl; exact rfl; exact rfl) | (apply WO.pp; exact rfl; exact rfl)
      all_goals exact ⟨.inr rfl, rfl, _, rfl, by simp [tupA, *], rfl⟩
  · rw [if_pos hb]
    refine run_of_W (by rw [hft]; exact ft23) (by simp) ?_
    unfold b23
    simp only [List.map_cons, List.map_nil, List.getElem?_cons_zero, List.getElem?_cons_succ, List.getElem?_nil, Option.getD_some, Option.getD_none]
    repeat' first | apply W.seq | apply SQn | apply W.region | apply WO.nil | apply W.block | apply W.ret | apply W.exit | apply W.skip | apply SQr | apply SQe | apply BQn | apply BQr | apply BQe | (apply BQo; exact rfl) | apply LQe | apply LQr | (apply W.condT; exact rfl) | (apply W.condF; exact rfl) | (apply W.cond; exact rfl; all_goals intro _) | (apply WO.gT; exact rfl) | (apply WO.gF; exact rfl) | (apply WO.sT; exact rfl) | (apply WO.sF; exact rfl) | (apply WO.sU; exact rfl) | (apply WO.eql; exact rfl; exact rfl; all_goals first | (intro _; exfalso; omega) | intro _) | (apply WO.neq; exact rfl; exact rfl; all_goals first | (intro _; exfalso; omega) | intro _) | (apply WO.pkT; exact rfl; exact rfl) | (apply WO.pkF; exact rfl; exact rfl) | (apply WO.seql; exact rfl; exact rfl; all_goals first | (intro h; exact absurd h (by decide)) | (intro h; exact absurd rfl h) | (intro h; contradiction) | intro _) | (apply WO.sneq; exact rfl; exact rfl; all_goals first | (intro h; exact absurd h (by decide)) | (intro h; exact absurd rfl h) | (intro h; contradiction) | intro _) | (apply WO.clb; exact rfl; exact rfl; exact rfl; all_goals first | (intro h; exact absurd h (by decide)) | intro _) | (apply WO.cll; exact rfl; exact rfl; exact rfl) | (apply WO.hlv; exact rfl; exact rfl; exact rfl) | (apply WO.hpv; exact rfl; exact rfl; exact rfl) | (apply WO.hnv; exact rfl; exact rfl; exact rfl) | (apply WO.pl; exact rfl; exact rfl) | (apply WO.pp; exact rfl; exact rfl)
    all_goals refine ⟨.inr rfl, rfl, _, rfl, ?_, rfl⟩
    all_goals simp only [tupA]; congr 1; symm
    all_goals first | (rw [decide_eq_true_eq]; omega) | (rw [decide_eq_false_iff_not]; omega)
end Go.Ab.Ch5


/-
  Own work: the law FinishImages.
-/
namespace Go.Ab.Ch5
variable {M : Mach} {cap : Option Nat}

/-! Texts that a readable slice holds. -/
theorem strsAt_vs {h : Heap} {l : List Str} {cap : Option Nat} : strsAt h (.vs (strs l) l.length cap) = some l := by
  simp only [strsAt, cellsAt, sliceCells, decStrs_strs, if_true]
theorem strsAt_nil {h : Heap} : strsAt h .nilsl = some [] := rfl
theorem strs_at {h : Heap} {b n : Nat} {cap : Option Nat} {l : List Str} {e : TypeId} (hb : h.at b = some (.cells (strs l) e)) (hl : l.length = n) : strsAt h (.sl b 0 n 1 cap) = some l := by
  subst hl
  have e1 : cut (strs l) 0 (l.length * 1) = some (strs l) := by
    rw [Nat.mul_one, ← strs_len l]; simp [cut]
  simp only [strsAt, cellsAt, hb, e1, Option.map_some, decStrs_strs]
  simp

/-- What FinishImages calls. -/
structure Calls13 (M : Mach) : Prop where
  c15 : ∀ h, M.ext 15 [] h = some ⟨.bool true, h, []⟩
  c16 : ∀ rows (l : List Str) cap h, M.ext 16 [.agg [.int .i64 rows, .vs (strs l) l.length cap]] h = some ⟨.bool (shortB l), h, []⟩
  c18 : ∀ rows (l : List Str) cap h, (∀ s ∈ l, s.length < 4611686018427387904) → l.length < 1000000 → M.ext 18 [.agg [.int .i64 rows, .vs (strs l) l.length cap]] h = some ⟨.int .i64 (imgE rows l), h, []⟩
  c70 : ∀ rows (l : List Str) cap h, (∀ s ∈ l, s.length < 4611686018427387904) → l.length < 1000000 → M.ext 70 [.agg [.int .i64 rows, .vs (strs l) l.length cap]] h = some ⟨.int .i64 (imgE rows l), h, []⟩
  c55e : ∀ rows (l : List Str) cap h, (∀ s ∈ l, s.length < 4611686018427387904) → l.length < 1000000 → imgE rows l ≠ 0 → M.ext 55 [.agg [.int .i64 rows, .vs (strs l) l.length cap]] h = some ⟨.tup [.nilsl, .int .i64 (imgE rows l)], h, []⟩
  c55n : ∀ rows (l : List Str) cap h, (∀ s ∈ l, s.length < 4611686018427387904) → l.length < 1000000 → imgE rows l = 0 → namesL (firsts26 l) 0 = [] → M.ext 55 [.agg [.int .i64 rows, .vs (strs l) l.length cap]] h = some ⟨.tup [.nilsl, .int .i64 0], h, []⟩
  c55s : ∀ rows (l : List Str) cap h, (∀ s ∈ l, s.length < 4611686018427387904) → l.length < 1000000 → imgE rows l = 0 → namesL (firsts26 l) 0 ≠ [] → M.ext 55 [.agg [.int .i64 rows, .vs (strs l) l.length cap]] h = some ⟨.tup [.sl h.length 0 (namesL (firsts26 l) 0).length 1 none, .int .i64 0], h ++ [some (.cells (strs (namesL (firsts26 l) 0)) 9)], []⟩
  c56 : ∀ rows (l : List Str) cap s h, (∀ s ∈ l, s.length < 4611686018427387904) → l.length < 1000000 → M.ext 56 [.agg [.int .i64 rows, .vs (strs l) l.length cap], .str s] h = some ⟨.tup [.int .i64 (firstR rows l s).1, .int .i64 (firstR rows l s).2], h, []⟩
  c71e : ∀ rows (l : List Str) cap h, (∀ s ∈ l, s.length < 4611686018427387904) → l.length < 1000000 → imgE rows l ≠ 0 → M.ext 71 [.agg [.int .i64 rows, .vs (strs l) l.length cap]] h = some ⟨.tup [.agg [.int .i64 0, .nilsl], .int .i64 (imgE rows l)], h, []⟩
  c71 : ∀ rows (l : List Str) cap h, (∀ s ∈ l, s.length < 4611686018427387904) → l.length < 1000000 → imgE rows l = 0 → M.ext 71 [.agg [.int .i64 rows, .vs (strs l) l.length cap]] h = some ⟨.tup [.agg [.int .i64 rows, .sl h.length 0 l.reverse.length 1 none], .int .i64 0], h ++ [some (.cells (strs l.reverse) 9)], []⟩
  c66e : ∀ rows (l : List Str) cap t h, (∀ s ∈ l, s.length < 4611686018427387904) → l.length < 1000000 → strE rows l t ≠ 0 → M.ext 66 [.agg [.int .i64 rows, .vs (strs l) l.length cap], .int .i64 t] h = some ⟨.tup [.agg [.int .i64 0, .nilsl], .int .i64 (strE rows l t)], h, []⟩
  c66 : ∀ rows (l : List Str) cap (t : Nat) h, (∀ s ∈ l, s.length < 4611686018427387904) → l.length < 1000000 → 1 ≤ t → t ≤ 4096 → strE rows l t = 0 → M.ext 66 [.agg [.int .i64 rows, .vs (strs l) l.length cap], .int .i64 t] h = some ⟨.tup [.agg [.int .i64 rows, .sl h.length 0 (strL t l).length 1 none], .int .i64 0], h ++ [some (.cells (strs (strL t l)) 9)], []⟩
  c72 : ∀ x y l m (e bad : Int) h, strsAt h x = some l → strsAt h y = some m → l.length < 4611686018427387904 → M.ext 72 [x, .int .i64 e, .int .i64 bad, y] h = some ⟨.bool (wordsB l m e bad), h, []⟩
  c42 : ∀ a e b w h, M.ext 42 [.int .i64 a, .int .i64 e, .int .i64 b, .int .i64 w] h = some ⟨.bool (if b ≠ 0 then decide (a = 0 ∧ e = b) else decide (e = 0 ∧ a = w)), h, []⟩
  c23 : ∀ r r' x y l m (e bad : Int) h, strsAt h x = some l → strsAt h y = some m → l.length < 4611686018427387904 → M.ext 23 [.agg [.int .i64 r, x], .int .i64 e, .int .i64 bad, .agg [.int .i64 r', y]] h = some ⟨.bool (imageB r l r' m e bad), h, []⟩
  c73n : ∀ rows (l : List Str) cap h, (∀ s ∈ l, s.length < 4611686018427387904) → l.length < 1000000 → namesL (firsts26 l) 0 = [] → M.ext 73 [.agg [.int .i64 rows, .vs (strs l) l.length cap]] h = some ⟨.nilsl, h, []⟩
  c73s : ∀ rows (l : List Str) cap h, (∀ s ∈ l, s.length < 4611686018427387904) → l.length < 1000000 → namesL (firsts26 l) 0 ≠ [] → M.ext 73 [.agg [.int .i64 rows, .vs (strs l) l.length cap]] h = some ⟨.sl h.length 0 (namesL (firsts26 l) 0).length 1 none, h ++ [some (.cells (strs (namesL (firsts26 l) 0)) 9)], []⟩
  c74 : ∀ rows (l : List Str) cap h, l.length < 1000000 → l ≠ [] → M.ext 74 [.agg [.int .i64 rows, .vs (strs l) l.length cap]] h = some ⟨.agg [.int .i64 rows, .sl h.length 0 l.reverse.length 1 none], h ++ [some (.cells (strs l.reverse) 9)], []⟩
  c75 : ∀ rows (l : List Str) cap (t : Nat) h, l.length < 1000000 → l.length * t < 1000000 → strL t l ≠ [] → M.ext 75 [.agg [.int .i64 rows, .vs (strs l) l.length cap], .int .i64 t] h = some ⟨.agg [.int .i64 rows, .sl h.length 0 (strL t l).length 1 none], h ++ [some (.cells (strs (strL t l)) 9)], []⟩
  c59 : ∀ x lo hi h, M.ext 59 [.int .i64 x, .int .i64 lo, .int .i64 hi] h = some ⟨.int .i64 (if outI x lo hi then 3 else 0), h, []⟩
  c20 : ∀ t e h, M.ext 20 [.bool t, .int .i64 e] h = some ⟨.int .i64 (if t then e else 0), h, []⟩
  c27 : ∀ s h, M.ext 27 [.str s] h = some ⟨.bool (athOf s).isSome, h, []⟩
  c28 : ∀ rows (l : List Str) cap c h, (∀ s ∈ l, s.length < 4611686018427387904) → l.length < 1000000 → M.ext 28 [.agg [.int .i64 rows, .vs (strs l) l.length cap], .int .u8 c] h = some ⟨.int .i64 (firstCol c l 0), h, []⟩

def t13_1 : ICode :=
 .seq (.seq (.draw [(⟨(.l 87), .mv (.p 7), none⟩, []),
                (⟨(.l 88), .mv (.p 8), none⟩, [0]),
                (⟨(.l 89), .load 2 true (.p 5), none⟩, [0, 1]),
                (⟨(.l 90), .call (.c (.fn (.func 73) [] [])) [(.l 89)], none⟩, [0, 1]),
                (⟨(.l 91), .call (.c (.fn (.func 72) [] [])) [(.l 87), (.l 88), (.c (.int .i64 (0))), (.l 90)], none⟩, []),
                (⟨(.l 92), .un .not (.l 91), none⟩, []),
                (⟨(.l 93), .mv (.l 92), none⟩, []),
                (⟨(.l 94), .load 2 true (.p 11), some ((.l 93), false)⟩, []),
                (⟨(.l 95), .mv (.p 12), some ((.l 93), false)⟩, [7]),
                (⟨(.l 96), .load 2 true (.p 5), some ((.l 93), false)⟩, [7, 8]),
                (⟨(.l 97), .call (.c (.fn (.func 74) [] [])) [(.l 96)], some ((.l 93), false)⟩, [7, 8]),
                (⟨(.l 98), .call (.c (.fn (.func 23) [] [])) [(.l 94), (.l 95), (.c (.int .i64 (0))), (.l 97)], some ((.l 93), false)⟩, []),
                (⟨(.l 99), .un .not (.l 98), some ((.l 93), false)⟩, []),
                (⟨(.l 100), .pick (.l 93) (.c (.bool true)) (.l 99), none⟩, [])])
              (.cond (.l 100)
               (.seq (.region [⟨(.p 4), .mv (.c (.bool false)), none⟩])
                (.ret))
               (.skip)))
             (.seq (.region [⟨(.l 101), .mv (.p 2), none⟩,
                ⟨(.l 102), .call (.c (.fn (.func 59) [] [])) [(.l 101), (.c (.int .i64 (1))), (.c (.int .i64 (4096)))], none⟩,
                ⟨(.p 15), .mv (.l 102), none⟩])
              (.seq (.seq (.region [⟨(.l 103), .mv (.p 15), none⟩,
                  ⟨(.l 104), .bin .eql (.l 103) (.c (.int .i64 (0))), none⟩])
                (.cond (.l 104)
                 (.region [⟨(.l 105), .mv (.p 2), none⟩,
                   ⟨(.l 106), .faddr 1 (.p 3), none⟩,
                   ⟨(.l 107), .load 1 false (.l 106), none⟩,
                   ⟨(.l 108), .len .sl (.l 107), none⟩,
                   ⟨(.l 109), .bin .mul (.l 105) (.l 108), none⟩,
                   ⟨(.l 110), .bin .gtr (.l 109) (.c (.int .i64 (4096))), none⟩,
                   ⟨(.l 111), .call (.c (.fn (.func 20) [] [])) [(.l 110), (.c (.int .i64 (5)))], none⟩,
                   ⟨(.p 15), .mv (.l 111), none⟩])
                 (.skip)))
               (.seq (.seq (.draw [(⟨(.l 112), .mv (.p 15), none⟩, []),
                   (⟨(.l 113), .bin .neq (.l 112) (.c (.int .i64 (0))), none⟩, []),
                   (⟨(.l 114), .mv (.l 113), none⟩, []),
                   (⟨(.l 115), .load 2 true (.p 13), some ((.l 114), true)⟩, []),
                   (⟨(.l 116), .mv (.p 14), some ((.l 114), true)⟩, [3]),
                   (⟨(.l 117), .mv (.p 15), some ((.l 114), true)⟩, [3, 4]),
                   (⟨(.l 118), .load 2 true (.p 5), some ((.l 114), true)⟩, [3, 4, 5]),
                   (⟨(.l 119), .call (.c (.fn (.func 23) [] [])) [(.l 115), (.l 116), (.l 117), (.l 118)], some ((.l 114), true)⟩, []),
                   (⟨(.l 120), .un .not (.l 119), some ((.l 114), true)⟩, []),
                   (⟨(.l 121), .pick (.l 114) (.l 120) (.c (.bool false)), none⟩, []),
                   (⟨(.l 122), .mv (.l 121), none⟩, []),
                   (⟨(.l 123), .mv (.p 15), some ((.l 122), false)⟩, []),
                   (⟨(.l 124), .bin .eql (.l 123) (.c (.int .i64 (0))), some ((.l 122), false)⟩, []),
                   (⟨(.l 125), .mv (.l 124), some ((.l 122), false)⟩, []),
                   (⟨(.l 126), .load 2 true (.p 13), some ((.l 125), true)⟩, []),
                   (⟨(.l 127), .mv (.p 14), some ((.l 125), true)⟩, [14]),
                   (⟨(.l 128), .load 2 true (.p 5), some ((.l 125), true)⟩, [14, 15]),
                   (⟨(.l 129), .mv (.p 2), some ((.l 125), true)⟩, [14, 15, 16]),
                   (⟨(.l 130), .call (.c (.fn (.func 75) [] [])) [(.l 128), (.l 129)], some ((.l 125), true)⟩, [14, 15]),
                   (⟨(.l 131), .call (.c (.fn (.func 23) [] [])) [(.l 126), (.l 127), (.c (.int .i64 (0))), (.l 130)], some ((.l 125), true)⟩, []),
                   (⟨(.l 132), .un .not (.l 131), some ((.l 125), true)⟩, []),
                   (⟨(.l 133), .pick (.l 125) (.l 132) (.c (.bool false)), some ((.l 122), false)⟩, []),
                   (⟨(.l 134), .pick (.l 122) (.c (.bool true)) (.l 133), none⟩, [])])
                 (.cond (.l 134)
                  (.seq (.region [⟨(.p 4), .mv (.c (.bool false)), none⟩])
                   (.ret))
                  (.skip)))
                (.seq (.seq (.region [⟨(.l 135), .mv (.p 1), none⟩,
                    ⟨(.l 136), .call (.c (.fn (.func 27) [] [])) [(.l 135)], none⟩,
                    ⟨(.l 137), .un .not (.l 136), none⟩])
                  (.cond (.l 137)
                   (.seq (.region [⟨(.l 138), .mv (.p 9), none⟩,
                      ⟨(.l 139), .mv (.p 10), none⟩,
                      ⟨(.l 140), .call (.c (.fn (.func 42) [] [])) [(.l 138), (.l 139), (.c (.int .i64 (8))), (.c (.int .i64 (0)))], none⟩,
                      ⟨(.p 4), .mv (.l 140), none⟩])
                    (.ret))
                   (.skip)))
                 (.seq (.draw [(⟨(.l 141), .load 2 true (.p 5), none⟩, []),
                    (⟨(.l 142), .mv (.p 1), none⟩, [0]),
                    (⟨(.l 143), .index (.l 142) (.c (.int .i64 (0))), none⟩, [0]),
                    (⟨(.l 144), .call (.c (.fn (.func 28) [] [])) [(.l 141), (.l 143)], none⟩, []),
                    (⟨(.p 16), .mv (.l 144), none⟩, [])])
                  (.seq (.region [⟨(.l 145), .mv (.p 9), none⟩,
                     ⟨(.l 146), .mv (.p 10), none⟩,
                     ⟨(.l 147), .mv (.p 16), none⟩,
                     ⟨(.l 148), .bin .lss (.l 147) (.c (.int .i64 (0))), none⟩,
                     ⟨(.l 149), .call (.c (.fn (.func 20) [] [])) [(.l 148), (.c (.int .i64 (7)))], none⟩,
                     ⟨(.l 150), .mv (.p 16), none⟩,
                     ⟨(.l 151), .call (.c (.fn (.func 42) [] [])) [(.l 145), (.l 146), (.l 149), (.l 150)], none⟩,
                     ⟨(.p 4), .mv (.l 151), none⟩])
                   (.ret)))))))

def t13_2 : ICode :=
 .seq (.region [⟨(.l 101), .mv (.p 2), none⟩,
                ⟨(.l 102), .call (.c (.fn (.func 59) [] [])) [(.l 101), (.c (.int .i64 (1))), (.c (.int .i64 (4096)))], none⟩,
                ⟨(.p 15), .mv (.l 102), none⟩])
              (.seq (.seq (.region [⟨(.l 103), .mv (.p 15), none⟩,
                  ⟨(.l 104), .bin .eql (.l 103) (.c (.int .i64 (0))), none⟩])
                (.cond (.l 104)
                 (.region [⟨(.l 105), .mv (.p 2), none⟩,
                   ⟨(.l 106), .faddr 1 (.p 3), none⟩,
                   ⟨(.l 107), .load 1 false (.l 106), none⟩,
                   ⟨(.l 108), .len .sl (.l 107), none⟩,
                   ⟨(.l 109), .bin .mul (.l 105) (.l 108), none⟩,
                   ⟨(.l 110), .bin .gtr (.l 109) (.c (.int .i64 (4096))), none⟩,
                   ⟨(.l 111), .call (.c (.fn (.func 20) [] [])) [(.l 110), (.c (.int .i64 (5)))], none⟩,
                   ⟨(.p 15), .mv (.l 111), none⟩])
                 (.skip)))
               (.seq (.seq (.draw [(⟨(.l 112), .mv (.p 15), none⟩, []),
                   (⟨(.l 113), .bin .neq (.l 112) (.c (.int .i64 (0))), none⟩, []),
                   (⟨(.l 114), .mv (.l 113), none⟩, []),
                   (⟨(.l 115), .load 2 true (.p 13), some ((.l 114), true)⟩, []),
                   (⟨(.l 116), .mv (.p 14), some ((.l 114), true)⟩, [3]),
                   (⟨(.l 117), .mv (.p 15), some ((.l 114), true)⟩, [3, 4]),
                   (⟨(.l 118), .load 2 true (.p 5), some ((.l 114), true)⟩, [3, 4, 5]),
                   (⟨(.l 119), .call (.c (.fn (.func 23) [] [])) [(.l 115), (.l 116), (.l 117), (.l 118)], some ((.l 114), true)⟩, []),
                   (⟨(.l 120), .un .not (.l 119), some ((.l 114), true)⟩, []),
                   (⟨(.l 121), .pick (.l 114) (.l 120) (.c (.bool false)), none⟩, []),
                   (⟨(.l 122), .mv (.l 121), none⟩, []),
                   (⟨(.l 123), .mv (.p 15), some ((.l 122), false)⟩, []),
                   (⟨(.l 124), .bin .eql (.l 123) (.c (.int .i64 (0))), some ((.l 122), false)⟩, []),
                   (⟨(.l 125), .mv (.l 124), some ((.l 122), false)⟩, []),
                   (⟨(.l 126), .load 2 true (.p 13), some ((.l 125), true)⟩, []),
                   (⟨(.l 127), .mv (.p 14), some ((.l 125), true)⟩, [14]),
                   (⟨(.l 128), .load 2 true (.p 5), some ((.l 125), true)⟩, [14, 15]),
                   (⟨(.l 129), .mv (.p 2), some ((.l 125), true)⟩, [14, 15, 16]),
                   (⟨(.l 130), .call (.c (.fn (.func 75) [] [])) [(.l 128), (.l 129)], some ((.l 125), true)⟩, [14, 15]),
                   (⟨(.l 131), .call (.c (.fn (.func 23) [] [])) [(.l 126), (.l 127), (.c (.int .i64 (0))), (.l 130)], some ((.l 125), true)⟩, []),
                   (⟨(.l 132), .un .not (.l 131), some ((.l 125), true)⟩, []),
                   (⟨(.l 133), .pick (.l 125) (.l 132) (.c (.bool false)), some ((.l 122), false)⟩, []),
                   (⟨(.l 134), .pick (.l 122) (.c (.bool true)) (.l 133), none⟩, [])])
                 (.cond (.l 134)
                  (.seq (.region [⟨(.p 4), .mv (.c (.bool false)), none⟩])
                   (.ret))
                  (.skip)))
                (.seq (.seq (.region [⟨(.l 135), .mv (.p 1), none⟩,
                    ⟨(.l 136), .call (.c (.fn (.func 27) [] [])) [(.l 135)], none⟩,
                    ⟨(.l 137), .un .not (.l 136), none⟩])
                  (.cond (.l 137)
                   (.seq (.region [⟨(.l 138), .mv (.p 9), none⟩,
                      ⟨(.l 139), .mv (.p 10), none⟩,
                      ⟨(.l 140), .call (.c (.fn (.func 42) [] [])) [(.l 138), (.l 139), (.c (.int .i64 (8))), (.c (.int .i64 (0)))], none⟩,
                      ⟨(.p 4), .mv (.l 140), none⟩])
                    (.ret))
                   (.skip)))
                 (.seq (.draw [(⟨(.l 141), .load 2 true (.p 5), none⟩, []),
                    (⟨(.l 142), .mv (.p 1), none⟩, [0]),
                    (⟨(.l 143), .index (.l 142) (.c (.int .i64 (0))), none⟩, [0]),
                    (⟨(.l 144), .call (.c (.fn (.func 28) [] [])) [(.l 141), (.l 143)], none⟩, []),
                    (⟨(.p 16), .mv (.l 144), none⟩, [])])
                  (.seq (.region [⟨(.l 145), .mv (.p 9), none⟩,
                     ⟨(.l 146), .mv (.p 10), none⟩,
                     ⟨(.l 147), .mv (.p 16), none⟩,
                     ⟨(.l 148), .bin .lss (.l 147) (.c (.int .i64 (0))), none⟩,
                     ⟨(.l 149), .call (.c (.fn (.func 20) [] [])) [(.l 148), (.c (.int .i64 (7)))], none⟩,
                     ⟨(.l 150), .mv (.p 16), none⟩,
                     ⟨(.l 151), .call (.c (.fn (.func 42) [] [])) [(.l 145), (.l 146), (.l 149), (.l 150)], none⟩,
                     ⟨(.p 4), .mv (.l 151), none⟩])
                   (.ret))))))

def t13_3 : ICode :=
 .seq (.seq (.region [⟨(.l 135), .mv (.p 1), none⟩,
                    ⟨(.l 136), .call (.c (.fn (.func 27) [] [])) [(.l 135)], none⟩,
                    ⟨(.l 137), .un .not (.l 136), none⟩])
                  (.cond (.l 137)
                   (.seq (.region [⟨(.l 138), .mv (.p 9), none⟩,
                      ⟨(.l 139), .mv (.p 10), none⟩,
                      ⟨(.l 140), .call (.c (.fn (.func 42) [] [])) [(.l 138), (.l 139), (.c (.int .i64 (8))), (.c (.int .i64 (0)))], none⟩,
                      ⟨(.p 4), .mv (.l 140), none⟩])
                    (.ret))
                   (.skip)))
                 (.seq (.draw [(⟨(.l 141), .load 2 true (.p 5), none⟩, []),
                    (⟨(.l 142), .mv (.p 1), none⟩, [0]),
                    (⟨(.l 143), .index (.l 142) (.c (.int .i64 (0))), none⟩, [0]),
                    (⟨(.l 144), .call (.c (.fn (.func 28) [] [])) [(.l 141), (.l 143)], none⟩, []),
                    (⟨(.p 16), .mv (.l 144), none⟩, [])])
                  (.seq (.region [⟨(.l 145), .mv (.p 9), none⟩,
                     ⟨(.l 146), .mv (.p 10), none⟩,
                     ⟨(.l 147), .mv (.p 16), none⟩,
                     ⟨(.l 148), .bin .lss (.l 147) (.c (.int .i64 (0))), none⟩,
                     ⟨(.l 149), .call (.c (.fn (.func 20) [] [])) [(.l 148), (.c (.int .i64 (7)))], none⟩,
                     ⟨(.l 150), .mv (.p 16), none⟩,
                     ⟨(.l 151), .call (.c (.fn (.func 42) [] [])) [(.l 145), (.l 146), (.l 149), (.l 150)], none⟩,
                     ⟨(.p 4), .mv (.l 151), none⟩])
                   (.ret)))

/-- What the law's end is: true is answered. -/
def Ends (e : Ex) (s : StW) : Prop := (e = .normal ∨ e = .ret) ∧ s.s.dfs = [] ∧ ∃ vs, resultsA s.s [.var (.p 4)] = some vs ∧ tupA vs = .bool true ∧ (if (AV.bool true).top ≤ 0 then [] else s.s.hp) = []
theorem ends {s : StW} (h1 : s.s.dfs = []) (h2 : s.s.pe[4]? = some (.bool true)) : Ends .ret s :=
  ⟨.inr rfl, h1, [.bool true], by simp only [resultsA, St.opd, h2], rfl, rfl⟩

/-- From IsAthlete on. -/
theorem tail3 (C : Calls13 M) (rows : Int) (l : List Str) (s : Str) (hL : ∀ s ∈ l, s.length < 4611686018427387904) (hl : l.length < 1000000) (hE : imgE rows l = 0) (a0 a2 a3 a6 a7 a8 a11 a12 a13 a14 a15 a16 : AV) (b5 : Nat) (lo : List (Nat × AV)) (K : Heap) (wr : List Nat) (hb : K.at b5 = some (.cells [.int .i64 rows, .vs (strs l) l.length cap] 25)) :
    W M t13_3 ⟨⟨[a0, .str s, a2, a3, .bool false, .ptr b5 0, a6, a7, a8, .int .i64 (firstR rows l s).1, .int .i64 (firstR rows l s).2, a11, a12, a13, a14, a15, a16], lo, K, []⟩, wr⟩ Ends := by
  have q27 := C.c27 s
  cases hA : athOf s with
  | none =>
    rw [hA] at q27
    have eR : firstR rows l s = (0, 8) := by rw [firstR, if_neg (fun h => h hE), hA]
    rw [eR]
    have q42 : ∀ h, M.ext 42 [.int .i64 0, .int .i64 8, .int .i64 8, .int .i64 0] h = some ⟨.bool true, h, []⟩ := fun h => by rw [C.c42]; rfl
    unfold t13_3
    repeat' first | apply W.seq | apply SQn | apply W.region | apply WO.nil | apply W.block | apply W.ret | apply W.exit | apply W.skip | apply SQr | apply SQe | apply BQn | apply BQr | apply BQe | (apply BQo; exact rfl) | apply LQe | apply LQr | (apply W.drawro; exact rfl) | apply W.draw | apply WD.nil | (apply WD.gT; exact rfl) | (apply WD.gF; exact rfl) | (apply WD.sT; exact rfl) | (apply WD.sF; exact rfl) | (apply WD.sU; exact rfl) | (apply WD.pure1; exact rfl) | (apply WD.load1; exact rfl; exact rfl; exact rfl) | (apply WD.clb; exact rfl; exact rfl; exact rfl; exact rfl; all_goals first | (intro h; exact absurd h (by decide)) | intro _) | (apply WD.cl0; exact rfl; exact rfl; exact rfl; exact rfl) | (apply WD.cl1; exact rfl; exact rfl; exact rfl; exact rfl) | (apply W.condT; exact rfl) | (apply W.condF; exact rfl) | (apply W.cond; exact rfl; all_goals intro _) | (apply WO.lss; exact rfl; exact rfl; all_goals first | (intro _; exfalso; omega) | intro _) | (apply WO.cll; exact rfl; exact rfl; first | exact q27 _ | exact q42 _) | (apply WO.idx; exact rfl; exact rfl; omega) | (apply WO.clb; exact rfl; exact rfl; exact rfl; all_goals first | (intro h; exact absurd h (by decide)) | intro _) | (apply WO.cll; exact rfl; exact rfl; exact rfl) | (apply WO.hlv; exact rfl; exact rfl; exact rfl) | (apply WO.hpv; exact rfl; exact rfl; exact rfl) | (apply WO.hnv; exact rfl; exact rfl; exact rfl) | (apply WO.pl; exact rfl; exact rfl) | (apply WO.pp; exact rfl; exact rfl)
    exact ends rfl rfl
  | some b =>
    rw [hA] at q27
    obtain rfl := athOf_some hA
    have q28 := fun h => C.c28 rows l cap b.toNat h hL hl
    have e0 : ([b] : Str)[(0 : Int).toNat]! = b := rfl
    by_cases hf : firstCol b.toNat l 0 < 0
    · have eR : firstR rows l [b] = (0, 7) := by rw [firstR, if_neg (fun h => h hE), hA]; simp only [if_pos hf]
      rw [eR]
      have q20 : ∀ h, M.ext 20 [.bool true, .int .i64 7] h = some ⟨.int .i64 7, h, []⟩ := fun h => C.c20 true 7 h
      have q42 : ∀ w h, M.ext 42 [.int .i64 0, .int .i64 7, .int .i64 7, .int .i64 w] h = some ⟨.bool true, h, []⟩ := fun w h => by rw [C.c42]; rfl
      unfold t13_3
      repeat' first | (apply WO.ldb; exact rfl; exact hb; exact rfl) | apply W.seq | apply SQn | apply W.region | apply WO.nil | apply W.block | apply W.ret | apply W.exit | apply W.skip | apply SQr | apply SQe | apply BQn | apply BQr | apply BQe | (apply BQo; exact rfl) | apply LQe | apply LQr | (apply W.drawro; exact rfl) | apply W.draw | apply WD.nil | (apply WD.gT; exact rfl) | (apply WD.gF; exact rfl) | (apply WD.sT; exact rfl) | (apply WD.sF; exact rfl) | (apply WD.sU; exact rfl) | (apply WD.pure1; exact rfl) | (apply WD.load1; exact rfl; exact rfl; exact rfl) | (apply WD.clb; exact rfl; exact rfl; exact rfl; exact rfl; all_goals first | (intro h; exact absurd h (by decide)) | intro _) | (apply WD.cl0; exact rfl; exact rfl; exact rfl; exact rfl) | (apply WD.cl1; exact rfl; exact rfl; exact rfl; exact rfl) | (apply W.condT; exact rfl) | (apply W.condF; exact rfl) | (apply W.cond; exact rfl; all_goals intro _) | (apply WO.lss; exact rfl; exact rfl; all_goals first | (intro _; exfalso; omega) | intro _) | (apply WO.cll; exact rfl; exact rfl; first | exact q27 _ | exact q28 _ | exact q20 _ | exact q42 _ _) | (apply WD.cl0; exact rfl; exact rfl; exact rfl; first | exact q27 _ | exact q28 _ | exact q20 _ | exact q42 _ _) | (apply WO.idx; exact rfl; exact rfl; omega) | (apply WO.clb; exact rfl; exact rfl; exact rfl; all_goals first | (intro h; exact absurd h (by decide)) | intro _) | (apply WO.cll; exact rfl; exact rfl; exact rfl) | (apply WO.hlv; exact rfl; exact rfl; exact rfl) | (apply WO.hpv; exact rfl; exact rfl; exact rfl) | (apply WO.hnv; exact rfl; exact rfl; exact rfl) | (apply WO.pl; exact rfl; exact rfl) | (apply WO.pp; exact rfl; exact rfl)
      exact ends rfl rfl
    · have eR : firstR rows l [b] = (firstCol b.toNat l 0, 0) := by rw [firstR, if_neg (fun h => h hE), hA]; simp only [if_neg hf]
      rw [eR]
      have q20 : ∀ h, M.ext 20 [.bool false, .int .i64 7] h = some ⟨.int .i64 0, h, []⟩ := fun h => C.c20 false 7 h
      have q42 : ∀ w h, M.ext 42 [.int .i64 w, .int .i64 0, .int .i64 0, .int .i64 w] h = some ⟨.bool true, h, []⟩ := fun w h => by rw [C.c42]; simp
      unfold t13_3
      repeat' first | (apply WO.ldb; exact rfl; exact hb; exact rfl) | apply W.seq | apply SQn | apply W.region | apply WO.nil | apply W.block | apply W.ret | apply W.exit | apply W.skip | apply SQr | apply SQe | apply BQn | apply BQr | apply BQe | (apply BQo; exact rfl) | apply LQe | apply LQr | (apply W.drawro; exact rfl) | apply W.draw | apply WD.nil | (apply WD.gT; exact rfl) | (apply WD.gF; exact rfl) | (apply WD.sT; exact rfl) | (apply WD.sF; exact rfl) | (apply WD.sU; exact rfl) | (apply WD.pure1; exact rfl) | (apply WD.load1; exact rfl; exact rfl; exact rfl) | (apply WD.clb; exact rfl; exact rfl; exact rfl; exact rfl; all_goals first | (intro h; exact absurd h (by decide)) | intro _) | (apply WD.cl0; exact rfl; exact rfl; exact rfl; exact rfl) | (apply WD.cl1; exact rfl; exact rfl; exact rfl; exact rfl) | (apply W.condT; exact rfl) | (apply W.condF; exact rfl) | (apply W.cond; exact rfl; all_goals intro _) | (apply WO.lss; exact rfl; exact rfl; all_goals first | (intro _; exfalso; omega) | intro _) | (apply WO.cll; exact rfl; exact rfl; first | exact q27 _ | exact q28 _ | exact q20 _ | exact q42 _ _) | (apply WD.cl0; exact rfl; exact rfl; exact rfl; first | exact q27 _ | exact q28 _ | exact q20 _ | exact q42 _ _) | (apply WO.idx; exact rfl; exact rfl; omega) | (apply WO.clb; exact rfl; exact rfl; exact rfl; all_goals first | (intro h; exact absurd h (by decide)) | intro _) | (apply WO.cll; exact rfl; exact rfl; exact rfl) | (apply WO.hlv; exact rfl; exact rfl; exact rfl) | (apply WO.hpv; exact rfl; exact rfl; exact rfl) | (apply WO.hnv; exact rfl; exact rfl; exact rfl) | (apply WO.pl; exact rfl; exact rfl) | (apply WO.pp; exact rfl; exact rfl)
      exact ends rfl rfl

theorem strsAt_old {K J : Heap} {v : AV} {l : List Str} (h : strsAt K v = some l) : strsAt (K ++ J) v = some l := by
  cases v with
  | sl b off n esz cap =>
    have hb : ∃ c e, K.at b = some (.cells c e) := by
      cases hat : K.at b with
      | none => simp [strsAt, cellsAt, hat] at h
      | some o => cases o <;> first | exact ⟨_, _, rfl⟩ | simp [strsAt, cellsAt, hat] at h
    obtain ⟨c, e, hat⟩ := hb
    have hat' := at_old (l := J) hat
    simp only [strsAt, cellsAt, hat, hat'] at h ⊢
    exact h
  | _ => exact h
theorem imageB_bad {rows e : Int} {l : List Str} (he : e ≠ 0) : imageB 0 [] rows l e e = true := by simp [imageB, he]
theorem imageB_good {r : Int} {l : List Str} : imageB r l r l 0 0 = true := by simp [imageB]
theorem wordsB_bad {e : Int} (he : e ≠ 0) : wordsB [] [] e e = true := by simp [wordsB, he]
theorem wordsB_good {l : List Str} : wordsB l l 0 0 = true := by simp [wordsB]

set_option maxHeartbeats 1000000 in
/-- From the stretched image on. -/
theorem tail2 (C : Calls13 M) (rows : Int) (l : List Str) (s : Str) (times : Int) (hL : ∀ s ∈ l, s.length < 4611686018427387904) (hl : l.length < 1000000) (hE : imgE rows l = 0) (a0 a7 a8 a11 a12 a15 a16 : AV) (b3 b5 b13 : Nat) (r4 : Int) (v4 : AV) (s4 : List Str) (lo : List (Nat × AV)) (K : Heap) (wr : List Nat)
    (h3 : K.at b3 = some (.cells [.int .i64 rows, .vs (strs l) l.length cap] 24)) (h5 : K.at b5 = some (.cells [.int .i64 rows, .vs (strs l) l.length cap] 25)) (h13 : K.at b13 = some (.cells [.int .i64 r4, v4] 24)) (hv4 : strsAt K v4 = some s4)
    (hbad : strE rows l times ≠ 0 → r4 = 0 ∧ s4 = []) (hgood : strE rows l times = 0 → r4 = rows ∧ s4 = strL times.toNat l) :
    W M t13_2 ⟨⟨[a0, .str s, .int .i64 times, .ptr b3 0, .bool false, .ptr b5 0, .int .i64 0, a7, a8, .int .i64 (firstR rows l s).1, .int .i64 (firstR rows l s).2, a11, a12, .ptr b13 0, .int .i64 (strE rows l times), a15, a16], lo, K, []⟩, wr⟩ Ends := by
  have hs := imgE_small hE
  have hne := imgE_ne hE
  have rest := fun a6 a14 a15 lo K wr hb => tail3 (cap := cap) C rows l s hL hl hE a0 (.int .i64 times) (.ptr b3 0) a6 a7 a8 a11 a12 (.ptr b13 0) a14 a15 a16 b5 lo K wr hb
  have q59' := fun h => C.c59 times 1 4096 h
  cases ho : outI times 1 4096
  · have h1 : 1 ≤ times ∧ times ≤ 4096 := by simp [outI] at ho; omega
    have hm : times * (l.length : Int) ≤ 4096 * 4096 := Int.mul_le_mul h1.2 (by omega) (by omega) (by omega)
    have hm0 : 0 ≤ times * (l.length : Int) := Int.mul_nonneg (by omega) (by omega)
    have hcm : (l.length : Int) * times = times * (l.length : Int) := Int.mul_comm _ _
    have q59 : ∀ h, M.ext 59 [.int .i64 times, .int .i64 1, .int .i64 4096] h = some ⟨.int .i64 0, h, []⟩ := fun h => by rw [q59', ho]; rfl
    by_cases hp : times * (l.length : Int) > 4096
    · have eS : strE rows l times = 5 := by rw [strE, if_neg (fun h => h hE), ho, hcm]; simp [hp]
      rw [eS] at hbad
      obtain ⟨rfl, rfl⟩ := hbad (by decide)
      rw [eS]
      have q20 : ∀ h, M.ext 20 [.bool true, .int .i64 5] h = some ⟨.int .i64 5, h, []⟩ := fun h => C.c20 true 5 h
      have q23 : M.ext 23 [.agg [.int .i64 0, v4], .int .i64 5, .int .i64 5, .agg [.int .i64 rows, .vs (strs l) l.length cap]] K = some ⟨.bool true, K, []⟩ := by
        rw [C.c23 _ _ _ _ [] l _ _ K hv4 strsAt_vs (by simp), imageB_bad (by decide)]
      unfold t13_2
      repeat' first | (exact rest _ _ _ _ _ _ h5) | (apply WO.ldb; exact rfl; exact h3; exact rfl) | (apply WO.ldb; exact rfl; exact h5; exact rfl) | (apply WO.ldb; exact rfl; exact h13; exact rfl) | apply W.seq | apply SQn | apply W.region | apply WO.nil | apply W.block | apply W.ret | apply W.exit | apply W.skip | apply SQr | apply SQe | apply BQn | apply BQr | apply BQe | (apply BQo; exact rfl) | apply LQe | apply LQr | (apply W.drawro; exact rfl) | apply W.draw | apply WD.nil | (apply WD.gT; exact rfl) | (apply WD.gF; exact rfl) | (apply WD.sT; exact rfl) | (apply WD.sF; exact rfl) | (apply WD.sU; exact rfl) | (apply WD.pure1; exact rfl) | (apply WD.load1; exact rfl; exact rfl; exact rfl) | (apply WD.clb; exact rfl; exact rfl; exact rfl; exact rfl; all_goals first | (intro h; exact absurd h (by decide)) | intro _) | (apply WD.cl0; exact rfl; exact rfl; exact rfl; exact rfl) | (apply WD.cl1; exact rfl; exact rfl; exact rfl; exact rfl) | (apply W.condT; exact rfl) | (apply W.condF; exact rfl) | (apply W.cond; exact rfl; all_goals intro _) | (apply WO.gT; exact rfl) | (apply WO.gF; exact rfl) | (apply WO.sT; exact rfl) | (apply WO.sF; exact rfl) | (apply WO.sU; exact rfl) | (apply WO.lss; exact rfl; exact rfl; all_goals first | (intro _; exfalso; omega) | intro _) | (apply WO.gtr; exact rfl; exact rfl; all_goals first | (intro _; exfalso; omega) | intro _) | (apply WO.eql; exact rfl; exact rfl; all_goals first | (intro _; exfalso; omega) | intro _) | (apply WO.neq; exact rfl; exact rfl; all_goals first | (intro _; exfalso; omega) | intro _) | (apply WO.pkT; exact rfl; exact rfl) | (apply WO.pkF; exact rfl; exact rfl) | (apply WO.mul; exact rfl; exact rfl; omega) | (apply WO.cll; exact rfl; exact rfl; first | exact q59 _ | exact q20 _ | exact q23) | (apply WD.cl0; exact rfl; exact rfl; exact rfl; first | exact q59 _ | exact q20 _ | exact q23) | (apply WO.idx; exact rfl; exact rfl; omega) | (apply WO.seql; exact rfl; exact rfl; all_goals first | (intro h; exact absurd h (by decide)) | (intro h; exact absurd rfl h) | (intro h; contradiction) | intro _) | (apply WO.sneq; exact rfl; exact rfl; all_goals first | (intro h; exact absurd h (by decide)) | (intro h; exact absurd rfl h) | (intro h; contradiction) | intro _) | (apply WO.clb; exact rfl; exact rfl; exact rfl; all_goals first | (intro h; exact absurd h (by decide)) | intro _) | (apply WO.cll; exact rfl; exact rfl; exact rfl) | (apply WO.hlv; exact rfl; exact rfl; exact rfl) | (apply WO.hpv; exact rfl; exact rfl; exact rfl) | (apply WO.hnv; exact rfl; exact rfl; exact rfl) | (apply WO.pl; exact rfl; exact rfl) | (apply WO.pp; exact rfl; exact rfl)
    · have eS : strE rows l times = 0 := by rw [strE, if_neg (fun h => h hE), ho, hcm]; simp [hp]
      obtain ⟨hr4, hs4⟩ := hgood eS
      rw [hr4] at h13
      rw [hs4] at hv4
      rw [eS]
      obtain ⟨t, rfl⟩ : ∃ t : Nat, times = t := ⟨times.toNat, by omega⟩
      rw [Int.toNat_natCast] at hv4
      have hB : l.length * t < 1000000 := by
        have : ((l.length * t : Nat) : Int) = (t : Int) * (l.length : Int) := by simp [Int.mul_comm]
        omega
      have hnz : strL t l ≠ [] := fun e => by
        have h1 := strL_len t l
        rw [e] at h1
        have h2 : 0 < l.length := List.length_pos_iff.2 hne
        have h3 : 0 < l.length * t := Nat.mul_pos h2 (by omega)
        simp at h1
        omega
      have q20 : ∀ h, M.ext 20 [.bool false, .int .i64 5] h = some ⟨.int .i64 0, h, []⟩ := fun h => C.c20 false 5 h
      have q75 := fun h => C.c75 rows l cap t h hl hB hnz
      have q23 : M.ext 23 [.agg [.int .i64 rows, v4], .int .i64 0, .int .i64 0, .agg [.int .i64 rows, .sl K.length 0 (strL t l).length 1 none]] (K ++ [some (.cells (strs (strL t l)) 9)]) = some ⟨.bool true, K ++ [some (.cells (strs (strL t l)) 9)], []⟩ := by
        rw [C.c23 _ _ _ _ (strL t l) (strL t l) _ _ _ (strsAt_old hv4) (strs_at at_new rfl) (by rw [strL_len]; omega), imageB_good]
      unfold t13_2
      repeat' first | (exact rest _ _ _ _ _ _ (at_old h5)) | (apply WO.ldb; exact rfl; exact h3; exact rfl) | (apply WO.ldb; exact rfl; exact h5; exact rfl) | (apply WO.ldb; exact rfl; exact h13; exact rfl) | apply W.seq | apply SQn | apply W.region | apply WO.nil | apply W.block | apply W.ret | apply W.exit | apply W.skip | apply SQr | apply SQe | apply BQn | apply BQr | apply BQe | (apply BQo; exact rfl) | apply LQe | apply LQr | (apply W.drawro; exact rfl) | apply W.draw | apply WD.nil | (apply WD.gT; exact rfl) | (apply WD.gF; exact rfl) | (apply WD.sT; exact rfl) | (apply WD.sF; exact rfl) | (apply WD.sU; exact rfl) | (apply WD.pure1; exact rfl) | (apply WD.load1; exact rfl; exact rfl; exact rfl) | (apply WD.clb; exact rfl; exact rfl; exact rfl; exact rfl; all_goals first | (intro h; exact absurd h (by decide)) | intro _) | (apply WD.cl0; exact rfl; exact rfl; exact rfl; exact rfl) | (apply WD.cl1; exact rfl; exact rfl; exact rfl; exact rfl) | (apply W.condT; exact rfl) | (apply W.condF; exact rfl) | (apply W.cond; exact rfl; all_goals intro _) | (apply WO.gT; exact rfl) | (apply WO.gF; exact rfl) | (apply WO.sT; exact rfl) | (apply WO.sF; exact rfl) | (apply WO.sU; exact rfl) | (apply WO.lss; exact rfl; exact rfl; all_goals first | (intro _; exfalso; omega) | intro _) | (apply WO.gtr; exact rfl; exact rfl; all_goals first | (intro _; exfalso; omega) | intro _) | (apply WO.eql; exact rfl; exact rfl; all_goals first | (intro _; exfalso; omega) | intro _) | (apply WO.neq; exact rfl; exact rfl; all_goals first | (intro _; exfalso; omega) | intro _) | (apply WO.pkT; exact rfl; exact rfl) | (apply WO.pkF; exact rfl; exact rfl) | (apply WO.mul; exact rfl; exact rfl; omega) | (apply WO.cll; exact rfl; exact rfl; first | exact q59 _ | exact q20 _ | exact q23) | (apply WD.cl0; exact rfl; exact rfl; exact rfl; first | exact q59 _ | exact q20 _ | exact q23) | (apply WD.cl1; exact rfl; exact rfl; exact rfl; exact q75 _) | (apply WO.idx; exact rfl; exact rfl; omega) | (apply WO.seql; exact rfl; exact rfl; all_goals first | (intro h; exact absurd h (by decide)) | (intro h; exact absurd rfl h) | (intro h; contradiction) | intro _) | (apply WO.sneq; exact rfl; exact rfl; all_goals first | (intro h; exact absurd h (by decide)) | (intro h; exact absurd rfl h) | (intro h; contradiction) | intro _) | (apply WO.clb; exact rfl; exact rfl; exact rfl; all_goals first | (intro h; exact absurd h (by decide)) | intro _) | (apply WO.cll; exact rfl; exact rfl; exact rfl) | (apply WO.hlv; exact rfl; exact rfl; exact rfl) | (apply WO.hpv; exact rfl; exact rfl; exact rfl) | (apply WO.hnv; exact rfl; exact rfl; exact rfl) | (apply WO.pl; exact rfl; exact rfl) | (apply WO.pp; exact rfl; exact rfl)
  · have eS : strE rows l times = 3 := by rw [strE, if_neg (fun h => h hE), ho]; rfl
    rw [eS] at hbad
    obtain ⟨rfl, rfl⟩ := hbad (by decide)
    rw [eS]
    have q59 : ∀ h, M.ext 59 [.int .i64 times, .int .i64 1, .int .i64 4096] h = some ⟨.int .i64 3, h, []⟩ := fun h => by rw [q59', ho]; rfl
    have q23 : M.ext 23 [.agg [.int .i64 0, v4], .int .i64 3, .int .i64 3, .agg [.int .i64 rows, .vs (strs l) l.length cap]] K = some ⟨.bool true, K, []⟩ := by
      rw [C.c23 _ _ _ _ [] l _ _ K hv4 strsAt_vs (by simp), imageB_bad (by decide)]
    unfold t13_2
    repeat' first | (exact rest _ _ _ _ _ _ h5) | (apply WO.ldb; exact rfl; exact h3; exact rfl) | (apply WO.ldb; exact rfl; exact h5; exact rfl) | (apply WO.ldb; exact rfl; exact h13; exact rfl) | apply W.seq | apply SQn | apply W.region | apply WO.nil | apply W.block | apply W.ret | apply W.exit | apply W.skip | apply SQr | apply SQe | apply BQn | apply BQr | apply BQe | (apply BQo; exact rfl) | apply LQe | apply LQr | (apply W.drawro; exact rfl) | apply W.draw | apply WD.nil | (apply WD.gT; exact rfl) | (apply WD.gF; exact rfl) | (apply WD.sT; exact rfl) | (apply WD.sF; exact rfl) | (apply WD.sU; exact rfl) | (apply WD.pure1; exact rfl) | (apply WD.load1; exact rfl; exact rfl; exact rfl) | (apply WD.clb; exact rfl; exact rfl; exact rfl; exact rfl; all_goals first | (intro h; exact absurd h (by decide)) | intro _) | (apply WD.cl0; exact rfl; exact rfl; exact rfl; exact rfl) | (apply WD.cl1; exact rfl; exact rfl; exact rfl; exact rfl) | (apply W.condT; exact rfl) | (apply W.condF; exact rfl) | (apply W.cond; exact rfl; all_goals intro _) | (apply WO.gT; exact rfl) | (apply WO.gF; exact rfl) | (apply WO.sT; exact rfl) | (apply WO.sF; exact rfl) | (apply WO.sU; exact rfl) | (apply WO.lss; exact rfl; exact rfl; all_goals first | (intro _; exfalso; omega) | intro _) | (apply WO.gtr; exact rfl; exact rfl; all_goals first | (intro _; exfalso; omega) | intro _) | (apply WO.eql; exact rfl; exact rfl; all_goals first | (intro _; exfalso; omega) | intro _) | (apply WO.neq; exact rfl; exact rfl; all_goals first | (intro _; exfalso; omega) | intro _) | (apply WO.pkT; exact rfl; exact rfl) | (apply WO.pkF; exact rfl; exact rfl) | (apply WO.mul; exact rfl; exact rfl; omega) | (apply WO.cll; exact rfl; exact rfl; first | exact q59 _ | exact q23) | (apply WD.cl0; exact rfl; exact rfl; exact rfl; first | exact q59 _ | exact q23) | (apply WO.idx; exact rfl; exact rfl; omega) | (apply WO.seql; exact rfl; exact rfl; all_goals first | (intro h; exact absurd h (by decide)) | (intro h; exact absurd rfl h) | (intro h; contradiction) | intro _) | (apply WO.sneq; exact rfl; exact rfl; all_goals first | (intro h; exact absurd h (by decide)) | (intro h; exact absurd rfl h) | (intro h; contradiction) | intro _) | (apply WO.clb; exact rfl; exact rfl; exact rfl; all_goals first | (intro h; exact absurd h (by decide)) | intro _) | (apply WO.cll; exact rfl; exact rfl; exact rfl) | (apply WO.hlv; exact rfl; exact rfl; exact rfl) | (apply WO.hpv; exact rfl; exact rfl; exact rfl) | (apply WO.hnv; exact rfl; exact rfl; exact rfl) | (apply WO.pl; exact rfl; exact rfl) | (apply WO.pp; exact rfl; exact rfl)

set_option maxHeartbeats 1000000 in
/-- From the torsos on. -/
theorem tail1 (C : Calls13 M) (rows : Int) (l : List Str) (s : Str) (times : Int) (hL : ∀ s ∈ l, s.length < 4611686018427387904) (hl : l.length < 1000000) (hE : imgE rows l = 0) (a0 a15 a16 : AV) (b3 b5 b11 b13 : Nat) (v7 v3 : AV) (r4 : Int) (v4 : AV) (s4 : List Str) (lo : List (Nat × AV)) (K : Heap) (wr : List Nat)
    (h3 : K.at b3 = some (.cells [.int .i64 rows, .vs (strs l) l.length cap] 24)) (h5 : K.at b5 = some (.cells [.int .i64 rows, .vs (strs l) l.length cap] 25)) (h11 : K.at b11 = some (.cells [.int .i64 rows, v3] 24)) (h13 : K.at b13 = some (.cells [.int .i64 r4, v4] 24))
    (hv7 : strsAt K v7 = some (namesL (firsts26 l) 0)) (hv3 : strsAt K v3 = some l.reverse) (hv4 : strsAt K v4 = some s4)
    (hbad : strE rows l times ≠ 0 → r4 = 0 ∧ s4 = []) (hgood : strE rows l times = 0 → r4 = rows ∧ s4 = strL times.toNat l) :
    W M t13_1 ⟨⟨[a0, .str s, .int .i64 times, .ptr b3 0, .bool false, .ptr b5 0, .int .i64 0, v7, .int .i64 0, .int .i64 (firstR rows l s).1, .int .i64 (firstR rows l s).2, .ptr b11 0, .int .i64 0, .ptr b13 0, .int .i64 (strE rows l times), a15, a16], lo, K, []⟩, wr⟩ Ends := by
  have rest := fun lo K wr h3 h5 h13 hv4 => tail2 (cap := cap) C rows l s times hL hl hE a0 v7 (.int .i64 0) (.ptr b11 0) (.int .i64 0) a15 a16 b3 b5 b13 r4 v4 s4 lo K wr h3 h5 h13 hv4 hbad hgood
  have hnl : (namesL (firsts26 l) 0).length < 4611686018427387904 := by
    have := namesL_len (firsts26 l) 0
    rw [firsts_len] at this
    omega
  have q74 := fun h => C.c74 rows l cap h hl (imgE_ne hE)
  have q23 : ∀ J, M.ext 23 [.agg [.int .i64 rows, v3], .int .i64 0, .int .i64 0, .agg [.int .i64 rows, .sl (K ++ J).length 0 l.reverse.length 1 none]] ((K ++ J) ++ [some (.cells (strs l.reverse) 9)]) = some ⟨.bool true, (K ++ J) ++ [some (.cells (strs l.reverse) 9)], []⟩ := fun J => by
    rw [C.c23 _ _ _ _ l.reverse l.reverse _ _ _ (strsAt_old (strsAt_old hv3)) (strs_at at_new rfl) (by simp; omega), imageB_good]
  by_cases hN : namesL (firsts26 l) 0 = []
  · have q73 := fun h => C.c73n rows l cap h hL hl hN
    have q72 : M.ext 72 [v7, .int .i64 0, .int .i64 0, .nilsl] K = some ⟨.bool true, K, []⟩ := by
      rw [C.c72 _ _ (namesL (firsts26 l) 0) [] _ _ K hv7 strsAt_nil hnl, hN, wordsB_good]
    have q23' := q23 []
    rw [List.append_nil] at q23'
    unfold t13_1
    repeat' first | (exact rest _ _ _ (at_old h3) (at_old h5) (at_old h13) (strsAt_old hv4)) | (apply WO.ldb; exact rfl; exact h5; exact rfl) | (apply WO.ldb; exact rfl; exact h11; exact rfl) | apply W.seq | apply SQn | apply W.region | apply WO.nil | apply W.block | apply W.ret | apply W.exit | apply W.skip | apply SQr | apply SQe | apply BQn | apply BQr | apply BQe | (apply BQo; exact rfl) | apply LQe | apply LQr | (apply W.drawro; exact rfl) | apply W.draw | apply WD.nil | (apply WD.gT; exact rfl) | (apply WD.gF; exact rfl) | (apply WD.sT; exact rfl) | (apply WD.sF; exact rfl) | (apply WD.sU; exact rfl) | (apply WD.pure1; exact rfl) | (apply WD.load1; exact rfl; exact rfl; exact rfl) | (apply WD.clb; exact rfl; exact rfl; exact rfl; exact rfl; all_goals first | (intro h; exact absurd h (by decide)) | intro _) | (apply WD.cl0; exact rfl; exact rfl; exact rfl; exact rfl) | (apply WD.cl1; exact rfl; exact rfl; exact rfl; exact rfl) | (apply W.condT; exact rfl) | (apply W.condF; exact rfl) | (apply W.cond; exact rfl; all_goals intro _) | (apply WO.gT; exact rfl) | (apply WO.gF; exact rfl) | (apply WO.sT; exact rfl) | (apply WO.sF; exact rfl) | (apply WO.sU; exact rfl) | (apply WO.lss; exact rfl; exact rfl; all_goals first | (intro _; exfalso; omega) | intro _) | (apply WO.gtr; exact rfl; exact rfl; all_goals first | (intro _; exfalso; omega) | intro _) | (apply WO.eql; exact rfl; exact rfl; all_goals first | (intro _; exfalso; omega) | intro _) | (apply WO.neq; exact rfl; exact rfl; all_goals first | (intro _; exfalso; omega) | intro _) | (apply WO.pkT; exact rfl; exact rfl) | (apply WO.pkF; exact rfl; exact rfl) | (apply WO.mul; exact rfl; exact rfl; omega) | (apply WO.cll; exact rfl; exact rfl; first | exact q73 _ | exact q72 | exact q23') | (apply WD.cl0; exact rfl; exact rfl; exact rfl; first | exact q73 _ | exact q72 | exact q23') | (apply WD.cl1; exact rfl; exact rfl; exact rfl; exact q74 _) | (apply WO.idx; exact rfl; exact rfl; omega) | (apply WO.seql; exact rfl; exact rfl; all_goals first | (intro h; exact absurd h (by decide)) | (intro h; exact absurd rfl h) | (intro h; contradiction) | intro _) | (apply WO.sneq; exact rfl; exact rfl; all_goals first | (intro h; exact absurd h (by decide)) | (intro h; exact absurd rfl h) | (intro h; contradiction) | intro _) | (apply WO.clb; exact rfl; exact rfl; exact rfl; all_goals first | (intro h; exact absurd h (by decide)) | intro _) | (apply WO.cll; exact rfl; exact rfl; exact rfl) | (apply WO.hlv; exact rfl; exact rfl; exact rfl) | (apply WO.hpv; exact rfl; exact rfl; exact rfl) | (apply WO.hnv; exact rfl; exact rfl; exact rfl) | (apply WO.pl; exact rfl; exact rfl) | (apply WO.pp; exact rfl; exact rfl)
  · have q73 := fun h => C.c73s rows l cap h hL hl hN
    have q72 : M.ext 72 [v7, .int .i64 0, .int .i64 0, .sl K.length 0 (namesL (firsts26 l) 0).length 1 none] (K ++ [some (.cells (strs (namesL (firsts26 l) 0)) 9)]) = some ⟨.bool true, K ++ [some (.cells (strs (namesL (firsts26 l) 0)) 9)], []⟩ := by
      rw [C.c72 _ _ (namesL (firsts26 l) 0) (namesL (firsts26 l) 0) _ _ _ (strsAt_old hv7) (strs_at at_new rfl) hnl, wordsB_good]
    have q23' := q23 [some (.cells (strs (namesL (firsts26 l) 0)) 9)]
    have h5' := at_old (l := [some (.cells (strs (namesL (firsts26 l) 0)) 9)]) h5
    have h11' := at_old (l := [some (.cells (strs (namesL (firsts26 l) 0)) 9)]) h11
    unfold t13_1
    repeat' first | (exact rest _ _ _ (at_old (at_old h3)) (at_old (at_old h5)) (at_old (at_old h13)) (strsAt_old (strsAt_old hv4))) | (apply WO.ldb; exact rfl; exact h5; exact rfl) | (apply WO.ldb; exact rfl; exact h5'; exact rfl) | (apply WO.ldb; exact rfl; exact h11'; exact rfl) | apply W.seq | apply SQn | apply W.region | apply WO.nil | apply W.block | apply W.ret | apply W.exit | apply W.skip | apply SQr | apply SQe | apply BQn | apply BQr | apply BQe | (apply BQo; exact rfl) | apply LQe | apply LQr | (apply W.drawro; exact rfl) | apply W.draw | apply WD.nil | (apply WD.gT; exact rfl) | (apply WD.gF; exact rfl) | (apply WD.sT; exact rfl) | (apply WD.sF; exact rfl) | (apply WD.sU; exact rfl) | (apply WD.pure1; exact rfl) | (apply WD.load1; exact rfl; exact rfl; exact rfl) | (apply WD.clb; exact rfl; exact rfl; exact rfl; exact rfl; all_goals first | (intro h; exact absurd h (by decide)) | intro _) | (apply WD.cl0; exact rfl; exact rfl; exact rfl; exact rfl) | (apply WD.cl1; exact rfl; exact rfl; exact rfl; exact rfl) | (apply W.condT; exact rfl) | (apply W.condF; exact rfl) | (apply W.cond; exact rfl; all_goals intro _) | (apply WO.gT; exact rfl) | (apply WO.gF; exact rfl) | (apply WO.sT; exact rfl) | (apply WO.sF; exact rfl) | (apply WO.sU; exact rfl) | (apply WO.lss; exact rfl; exact rfl; all_goals first | (intro _; exfalso; omega) | intro _) | (apply WO.gtr; exact rfl; exact rfl; all_goals first | (intro _; exfalso; omega) | intro _) | (apply WO.eql; exact rfl; exact rfl; all_goals first | (intro _; exfalso; omega) | intro _) | (apply WO.neq; exact rfl; exact rfl; all_goals first | (intro _; exfalso; omega) | intro _) | (apply WO.pkT; exact rfl; exact rfl) | (apply WO.pkF; exact rfl; exact rfl) | (apply WO.mul; exact rfl; exact rfl; omega) | (apply WO.cll; exact rfl; exact rfl; first | exact q72 | exact q23') | (apply WD.cl0; exact rfl; exact rfl; exact rfl; first | exact q72 | exact q23') | (apply WD.cl1; exact rfl; exact rfl; exact rfl; exact q73 _) | (apply WD.cl1; exact rfl; exact rfl; exact rfl; exact q74 _) | (apply WO.idx; exact rfl; exact rfl; omega) | (apply WO.seql; exact rfl; exact rfl; all_goals first | (intro h; exact absurd h (by decide)) | (intro h; exact absurd rfl h) | (intro h; contradiction) | intro _) | (apply WO.sneq; exact rfl; exact rfl; all_goals first | (intro h; exact absurd h (by decide)) | (intro h; exact absurd rfl h) | (intro h; contradiction) | intro _) | (apply WO.clb; exact rfl; exact rfl; exact rfl; all_goals first | (intro h; exact absurd h (by decide)) | intro _) | (apply WO.cll; exact rfl; exact rfl; exact rfl) | (apply WO.hlv; exact rfl; exact rfl; exact rfl) | (apply WO.hpv; exact rfl; exact rfl; exact rfl) | (apply WO.hnv; exact rfl; exact rfl; exact rfl) | (apply WO.pl; exact rfl; exact rfl) | (apply WO.pp; exact rfl; exact rfl)
end Go.Ab.Ch5

