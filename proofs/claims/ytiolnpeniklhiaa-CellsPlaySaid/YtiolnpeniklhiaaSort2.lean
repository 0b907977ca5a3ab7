/- slices.SortFunc over words, its parts (2): heap sort, reversing.
   Conditions: what stands in memory, as each states it. -/
import Derived.Test.YtiolnpeniklhiaaSort1
namespace Go.Proofs.Ytiolnpeniklhiaa
open Go Go.Ab
set_option linter.all false
set_option maxRecDepth 100000

theorem size_sift (lt : Int × Int → Int × Int → Bool) (hi first : Nat) : ∀ (n root : Nat) (d : WA), hi - root ≤ n → (Sort.siftDown lt hi first root d).size = d.size := by
  intro n
  induction n with
  | zero =>
    intro root d h
    rw [Sort.siftDown, dif_pos (by omega)]
  | succ n ih =>
    intro root d h
    rw [Sort.siftDown]
    split
    · rfl
    · split
      · split
        · rfl
        · split
          · rw [ih _ _ (by omega), size_swp]
          · rfl
      · split
        · rfl
        · rw [ih _ _ (by omega), size_swp]
/-- A heap's root goes down. -/
theorem sift_ok {m root hi first cap : Nat} {d : WA} {H : AH} {K : KV} {F : SL} (hh : first + hi ≤ d.size) (hr : root ≤ hi) (hsz : d.size < 1000000) (hs : sat H (pts m (wobj d) * F))
    (hK : ∀ H', sat H' (pts m (wobj (Sort.siftDown ltW hi first root d)) * F) → K (.tuple ⟨[]⟩) H') :
    DS Try.prog Fi.slices_siftDownCmpFunc_cells_Word [slc m d.size cap, .int .i64 (root : Int), .int .i64 (hi : Int), .int .i64 (first : Int), cmpF] H K := by
  refine use_slices_siftDownCmpFunc_cells_Word (d.size + 2) ?_
  unfold sh_slices_siftDownCmpFunc_cells_Word
  refine lp_rule (fun n t H => ∃ (q : Nat) (d1 : WA), q ≤ hi ∧ hi + 1 < n + q ∧ d1.size = d.size ∧ t = (slc m d.size cap, .int .i64 (hi : Int), .int .i64 (first : Int), cmpF, .int .i64 (q : Int), ()) ∧
    Sort.siftDown ltW hi first q d1 = Sort.siftDown ltW hi first root d ∧ sat H (pts m (wobj d1) * F)) ?_ ?_ ⟨root, d, hr, by omega, rfl, rfl, rfl, hs⟩
  · rintro n t H ⟨q, d1, hq, hn, hd1, rfl, heq, h1⟩ R hR
    have w1 : IntKind.i64.wrap (2 * (q : Int)) = ((2 * q : Nat) : Int) := by rw [w64n (by omega)]; omega
    have w2 : IntKind.i64.wrap (((2 * q : Nat) : Int) + 1) = ((2 * q + 1 : Nat) : Int) := by rw [w64n (by omega)]; omega
    have w3 : IntKind.i64.wrap (((2 * q + 1 : Nat) : Int) + 1) = ((2 * q + 2 : Nat) : Int) := by rw [w64n (by omega)]; omega
    simp only [RS, List.cons_append, List.nil_append, Option.isNone_some, Option.isNone_none, Option.isSome_some, Option.isSome_none, Nat.zero_add, Nat.add_zero, Nat.reduceAdd, List.getElem?_cons_zero, List.getElem?_cons_succ, List.length_cons, List.length_nil, List.all_cons, List.all_nil, Bool.and_self, Bool.and_true, Bool.true_and, Option.bind_some, Nat.reduceLeDiff, Nat.reduceEqDiff, Nat.le_refl, and_self, if_true, if_false, List.drop_zero, List.drop_succ_cons, List.take_zero, List.take_succ_cons, List.take_nil, List.drop_nil, true_and, and_true, decide_true, decide_false, Nat.reduceMul, Nat.zero_mul, Nat.one_mul, Nat.mul_one, w1, w2, w3]
    rw [Sort.siftDown] at heq
    by_cases hc : 2 * q + 1 ≥ hi
    · have e : decide (((2 * q + 1 : Nat) : Int) ≥ (hi : Int)) = true := by simp; omega
      simp only [e, RS, List.cons_append, List.nil_append, Option.isNone_some, Option.isNone_none, Option.isSome_some, Option.isSome_none, Nat.zero_add, Nat.add_zero, Nat.reduceAdd, List.getElem?_cons_zero, List.getElem?_cons_succ, List.length_cons, List.length_nil, List.all_cons, List.all_nil, Bool.and_self, Bool.and_true, Bool.true_and, Option.bind_some, Nat.reduceLeDiff, Nat.reduceEqDiff, Nat.le_refl, and_self, if_true, if_false, List.drop_zero, List.drop_succ_cons, List.take_zero, List.take_succ_cons, List.take_nil, List.drop_nil, true_and, and_true, decide_true, decide_false, Nat.reduceMul, Nat.zero_mul, Nat.one_mul, Nat.mul_one]
      rw [dif_pos hc] at heq
      rw [← heq] at hK
      exact hK _ h1
    have e : decide (((2 * q + 1 : Nat) : Int) ≥ (hi : Int)) = false := by simp; omega
    simp only [e, RS, List.cons_append, List.nil_append, Option.isNone_some, Option.isNone_none, Option.isSome_some, Option.isSome_none, Nat.zero_add, Nat.add_zero, Nat.reduceAdd, List.getElem?_cons_zero, List.getElem?_cons_succ, List.length_cons, List.length_nil, List.all_cons, List.all_nil, Bool.and_self, Bool.and_true, Bool.true_and, Option.bind_some, Nat.reduceLeDiff, Nat.reduceEqDiff, Nat.le_refl, and_self, if_true, if_false, List.drop_zero, List.drop_succ_cons, List.take_zero, List.take_succ_cons, List.take_nil, List.drop_nil, true_and, and_true, decide_true, decide_false, Nat.reduceMul, Nat.zero_mul, Nat.one_mul, Nat.mul_one]
    rw [dif_neg hc] at heq
    -- the child that goes up
    refine jn_rule (fun t H => ∃ ch : Nat, (ch = 2 * q + 1 ∨ ch = 2 * q + 2) ∧ ch < hi ∧ t = (slc m d.size cap, .int .i64 (hi : Int), .int .i64 (first : Int), cmpF, .int .i64 (q : Int), .int .i64 (ch : Int), ()) ∧
      (if !ltW d1[first + q]! d1[first + ch]! then d1 else Sort.siftDown ltW hi first ch (Sort.swp d1 (first + q) (first + ch))) = Sort.siftDown ltW hi first root d ∧ sat H (pts m (wobj d1) * F)) ?_ ?_
    · rintro t H2 ⟨ch, hch, hch2, rfl, heq2, h2⟩
      have g := (sat_get h2).1
      have v1 : IntKind.i64.wrap ((first : Int) + (q : Int)) = ((first + q : Nat) : Int) := by rw [w64n (by omega)]; omega
      have v2 : IntKind.i64.wrap ((first : Int) + (ch : Int)) = ((first + ch : Nat) : Int) := by rw [w64n (by omega)]; omega
      have i1 := ixw (m := m) (cap := cap) (show first + q < d.size by omega)
      have i2 := ixw (m := m) (cap := cap) (show first + ch < d.size by omega)
      simp only [RS, List.cons_append, List.nil_append, Option.isNone_some, Option.isNone_none, Option.isSome_some, Option.isSome_none, Nat.zero_add, Nat.add_zero, Nat.reduceAdd, List.getElem?_cons_zero, List.getElem?_cons_succ, List.length_cons, List.length_nil, List.all_cons, List.all_nil, Bool.and_self, Bool.and_true, Bool.true_and, Option.bind_some, Nat.reduceLeDiff, Nat.reduceEqDiff, Nat.le_refl, and_self, if_true, if_false, List.drop_zero, List.drop_succ_cons, List.take_zero, List.take_succ_cons, List.take_nil, List.drop_nil, true_and, and_true, decide_true, decide_false, Nat.reduceMul, Nat.zero_mul, Nat.one_mul, Nat.mul_one, v1, v2, i1, i2, g, ldw (show first + q < d1.size by omega), ldw (show first + ch < d1.size by omega)]
      refine cmp_ok h2 fun H3 h3 => ?_
      have g3 := (sat_get h3).1
      simp only [RS, List.cons_append, List.nil_append, Option.isNone_some, Option.isNone_none, Option.isSome_some, Option.isSome_none, Nat.zero_add, Nat.add_zero, Nat.reduceAdd, List.getElem?_cons_zero, List.getElem?_cons_succ, List.length_cons, List.length_nil, List.all_cons, List.all_nil, Bool.and_self, Bool.and_true, Bool.true_and, Option.bind_some, Nat.reduceLeDiff, Nat.reduceEqDiff, Nat.le_refl, and_self, if_true, if_false, List.drop_zero, List.drop_succ_cons, List.take_zero, List.take_succ_cons, List.take_nil, List.drop_nil, true_and, and_true, decide_true, decide_false, Nat.reduceMul, Nat.zero_mul, Nat.one_mul, Nat.mul_one, cmpI_lt]
      cases hlt : ltW d1[first + q]! d1[first + ch]! with
      | false =>
        rw [hlt, if_pos (by rfl)] at heq2
        simp only [RS, List.cons_append, List.nil_append, Option.isNone_some, Option.isNone_none, Option.isSome_some, Option.isSome_none, Nat.zero_add, Nat.add_zero, Nat.reduceAdd, List.getElem?_cons_zero, List.getElem?_cons_succ, List.length_cons, List.length_nil, List.all_cons, List.all_nil, Bool.and_self, Bool.and_true, Bool.true_and, Option.bind_some, Nat.reduceLeDiff, Nat.reduceEqDiff, Nat.le_refl, and_self, if_true, if_false, List.drop_zero, List.drop_succ_cons, List.take_zero, List.take_succ_cons, List.take_nil, List.drop_nil, true_and, and_true, decide_true, decide_false, Nat.reduceMul, Nat.zero_mul, Nat.one_mul, Nat.mul_one, Bool.not_false]
        rw [← heq2] at hK
        exact hK _ h3
      | true =>
        rw [hlt, if_neg (by simp)] at heq2
        simp only [RS, List.cons_append, List.nil_append, Option.isNone_some, Option.isNone_none, Option.isSome_some, Option.isSome_none, Nat.zero_add, Nat.add_zero, Nat.reduceAdd, List.getElem?_cons_zero, List.getElem?_cons_succ, List.length_cons, List.length_nil, List.all_cons, List.all_nil, Bool.and_self, Bool.and_true, Bool.true_and, Option.bind_some, Nat.reduceLeDiff, Nat.reduceEqDiff, Nat.le_refl, and_self, if_true, if_false, List.drop_zero, List.drop_succ_cons, List.take_zero, List.take_succ_cons, List.take_nil, List.drop_nil, true_and, and_true, decide_true, decide_false, Nat.reduceMul, Nat.zero_mul, Nat.one_mul, Nat.mul_one, Bool.not_true, v1, v2, i1, i2, g3, ldw (show first + q < d1.size by omega), ldw (show first + ch < d1.size by omega), stw _ (show first + q < d1.size by omega), get_put_eq, stw _ (show first + ch < (d1.setIfInBounds (first + q) d1[first + ch]!).size by rw [size_set]; omega)]
        exact hR _ _ ⟨ch, Sort.swp d1 (first + q) (first + ch), by omega, by omega, by rw [size_swp]; exact hd1, rfl, heq2, sat_put _ (sat_put _ h3)⟩
    · intro R2 hR2
      refine jn_rule (fun t H => t = (slc m d.size cap, .int .i64 (hi : Int), .int .i64 (first : Int), cmpF, .int .i64 (q : Int), .int .i64 ((2 * q + 1 : Nat) : Int), .bool (decide (2 * q + 1 + 1 < hi) && ltW d1[first + (2 * q + 1)]! d1[first + (2 * q + 1) + 1]!), ()) ∧ sat H (pts m (wobj d1) * F)) ?_ ?_
      · rintro t H2 ⟨rfl, h2⟩
        simp only [RS, List.cons_append, List.nil_append, Option.isNone_some, Option.isNone_none, Option.isSome_some, Option.isSome_none, Nat.zero_add, Nat.add_zero, Nat.reduceAdd, List.getElem?_cons_zero, List.getElem?_cons_succ, List.length_cons, List.length_nil, List.all_cons, List.all_nil, Bool.and_self, Bool.and_true, Bool.true_and, Option.bind_some, Nat.reduceLeDiff, Nat.reduceEqDiff, Nat.le_refl, and_self, if_true, if_false, List.drop_zero, List.drop_succ_cons, List.take_zero, List.take_succ_cons, List.take_nil, List.drop_nil, true_and, and_true, decide_true, decide_false, Nat.reduceMul, Nat.zero_mul, Nat.one_mul, Nat.mul_one, w3]
        cases hb : (decide (2 * q + 1 + 1 < hi) && ltW d1[first + (2 * q + 1)]! d1[first + (2 * q + 1) + 1]!) with
        | true =>
          rw [if_pos hb] at heq
          simp only [RS, List.cons_append, List.nil_append, Option.isNone_some, Option.isNone_none, Option.isSome_some, Option.isSome_none, Nat.zero_add, Nat.add_zero, Nat.reduceAdd, List.getElem?_cons_zero, List.getElem?_cons_succ, List.length_cons, List.length_nil, List.all_cons, List.all_nil, Bool.and_self, Bool.and_true, Bool.true_and, Option.bind_some, Nat.reduceLeDiff, Nat.reduceEqDiff, Nat.le_refl, and_self, if_true, if_false, List.drop_zero, List.drop_succ_cons, List.take_zero, List.take_succ_cons, List.take_nil, List.drop_nil, true_and, and_true, decide_true, decide_false, Nat.reduceMul, Nat.zero_mul, Nat.one_mul, Nat.mul_one]
          have hlt2 : 2 * q + 2 < hi := by simp at hb; omega
          refine hR2 _ _ ⟨2 * q + 2, .inr rfl, hlt2, rfl, ?_, h2⟩
          rw [dif_pos hlt2] at heq
          exact heq
        | false =>
          rw [if_neg (by rw [hb]; simp)] at heq
          simp only [RS, List.cons_append, List.nil_append, Option.isNone_some, Option.isNone_none, Option.isSome_some, Option.isSome_none, Nat.zero_add, Nat.add_zero, Nat.reduceAdd, List.getElem?_cons_zero, List.getElem?_cons_succ, List.length_cons, List.length_nil, List.all_cons, List.all_nil, Bool.and_self, Bool.and_true, Bool.true_and, Option.bind_some, Nat.reduceLeDiff, Nat.reduceEqDiff, Nat.le_refl, and_self, if_true, if_false, List.drop_zero, List.drop_succ_cons, List.take_zero, List.take_succ_cons, List.take_nil, List.drop_nil, true_and, and_true, decide_true, decide_false, Nat.reduceMul, Nat.zero_mul, Nat.one_mul, Nat.mul_one]
          exact hR2 _ _ ⟨2 * q + 1, .inl rfl, by omega, rfl, heq, h2⟩
      · intro R3 hR3
        by_cases hc2 : 2 * q + 1 + 1 < hi
        · have e2 : decide (((2 * q + 2 : Nat) : Int) < (hi : Int)) = true := by simp; omega
          have e3 : decide (2 * q + 1 + 1 < hi) = true := by simpa using hc2
          have g := (sat_get h1).1
          have v2 : IntKind.i64.wrap ((first : Int) + ((2 * q + 1 : Nat) : Int)) = ((first + (2 * q + 1) : Nat) : Int) := by rw [w64n (by omega)]; omega
          have v3 : IntKind.i64.wrap (((first + (2 * q + 1) : Nat) : Int) + 1) = ((first + (2 * q + 1) + 1 : Nat) : Int) := by rw [w64n (by omega)]; omega
          have i2 := ixw (m := m) (cap := cap) (show first + (2 * q + 1) < d.size by omega)
          have i3 := ixw (m := m) (cap := cap) (show first + (2 * q + 1) + 1 < d.size by omega)
          simp only [e2, RS, List.cons_append, List.nil_append, Option.isNone_some, Option.isNone_none, Option.isSome_some, Option.isSome_none, Nat.zero_add, Nat.add_zero, Nat.reduceAdd, List.getElem?_cons_zero, List.getElem?_cons_succ, List.length_cons, List.length_nil, List.all_cons, List.all_nil, Bool.and_self, Bool.and_true, Bool.true_and, Option.bind_some, Nat.reduceLeDiff, Nat.reduceEqDiff, Nat.le_refl, and_self, if_true, if_false, List.drop_zero, List.drop_succ_cons, List.take_zero, List.take_succ_cons, List.take_nil, List.drop_nil, true_and, and_true, decide_true, decide_false, Nat.reduceMul, Nat.zero_mul, Nat.one_mul, Nat.mul_one, v2, v3, i2, i3, g, ldw (show first + (2 * q + 1) < d1.size by omega), ldw (show first + (2 * q + 1) + 1 < d1.size by omega)]
          refine cmp_ok h1 fun H3 h3 => ?_
          simp only [RS, List.cons_append, List.nil_append, Option.isNone_some, Option.isNone_none, Option.isSome_some, Option.isSome_none, Nat.zero_add, Nat.add_zero, Nat.reduceAdd, List.getElem?_cons_zero, List.getElem?_cons_succ, List.length_cons, List.length_nil, List.all_cons, List.all_nil, Bool.and_self, Bool.and_true, Bool.true_and, Option.bind_some, Nat.reduceLeDiff, Nat.reduceEqDiff, Nat.le_refl, and_self, if_true, if_false, List.drop_zero, List.drop_succ_cons, List.take_zero, List.take_succ_cons, List.take_nil, List.drop_nil, true_and, and_true, decide_true, decide_false, Nat.reduceMul, Nat.zero_mul, Nat.one_mul, Nat.mul_one, cmpI_lt]
          exact hR3 _ _ ⟨by rw [e3, Bool.true_and], h3⟩
        · have e2 : decide (((2 * q + 2 : Nat) : Int) < (hi : Int)) = false := by simp; omega
          have e3 : decide (2 * q + 1 + 1 < hi) = false := by simpa using hc2
          simp only [e2, RS, List.cons_append, List.nil_append, Option.isNone_some, Option.isNone_none, Option.isSome_some, Option.isSome_none, Nat.zero_add, Nat.add_zero, Nat.reduceAdd, List.getElem?_cons_zero, List.getElem?_cons_succ, List.length_cons, List.length_nil, List.all_cons, List.all_nil, Bool.and_self, Bool.and_true, Bool.true_and, Option.bind_some, Nat.reduceLeDiff, Nat.reduceEqDiff, Nat.le_refl, and_self, if_true, if_false, List.drop_zero, List.drop_succ_cons, List.take_zero, List.take_succ_cons, List.take_nil, List.drop_nil, true_and, and_true, decide_true, decide_false, Nat.reduceMul, Nat.zero_mul, Nat.one_mul, Nat.mul_one]
          exact hR3 _ _ ⟨by rw [e3, Bool.false_and], h1⟩
  · rintro t H ⟨q, d1, hq, hn, -⟩; omega
theorem size_build (lt : Int × Int → Int × Int → Bool) (hi first : Nat) : ∀ (k : Nat) (d : WA), (Sort.heapBuild lt hi first k d).size = d.size
  | 0, d => rfl
  | k + 1, d => by rw [Sort.heapBuild, size_build lt hi first k, size_sift lt hi first (hi - k) k d (by omega)]
/-- Heap sort of a part that is not empty. -/
theorem heap_ok {m a b cap : Nat} {d : WA} {H : AH} {K : KV} {F : SL} (hab : a < b) (hb : b ≤ d.size) (hsz : d.size < 1000000) (hs : sat H (pts m (wobj d) * F))
    (hK : ∀ H', sat H' (pts m (wobj (Sort.heapSort ltW d a b)) * F) → K (.tuple ⟨[]⟩) H') :
    DS Try.prog Fi.slices_heapSortCmpFunc_cells_Word [slc m d.size cap, .int .i64 (a : Int), .int .i64 (b : Int), cmpF] H K := by
  refine use_slices_heapSortCmpFunc_cells_Word (d.size + 3) ?_
  unfold sh_slices_heapSortCmpFunc_cells_Word
  have w0 : IntKind.i64.wrap ((b : Int) - (a : Int)) = ((b - a : Nat) : Int) := by rw [w64n (by omega)]; omega
  have w1 : IntKind.i64.wrap (((b - a : Nat) : Int) - 1) = ((b - a - 1 : Nat) : Int) := by rw [w64n (by omega)]; omega
  have w2 : IntKind.i64.wrap (((b - a - 1 : Nat) : Int).tdiv 2) = (((b - a - 1) / 2 : Nat) : Int) := by rw [Int.tdiv_eq_ediv_of_nonneg (by omega), w64n (by omega)]; omega
  simp only [RS, List.cons_append, List.nil_append, Option.isNone_some, Option.isNone_none, Option.isSome_some, Option.isSome_none, Nat.zero_add, Nat.add_zero, Nat.reduceAdd, List.getElem?_cons_zero, List.getElem?_cons_succ, List.length_cons, List.length_nil, List.all_cons, List.all_nil, Bool.and_self, Bool.and_true, Bool.true_and, Option.bind_some, Nat.reduceLeDiff, Nat.reduceEqDiff, Nat.le_refl, and_self, if_true, if_false, List.drop_zero, List.drop_succ_cons, List.take_zero, List.take_succ_cons, List.take_nil, List.drop_nil, true_and, and_true, decide_true, decide_false, Nat.reduceMul, Nat.zero_mul, Nat.one_mul, Nat.mul_one, w0, w1, binT_quo_int _ _ _ _ 2 (by decide), w2]
  unfold Sort.heapSort at hK
  refine lp_rule (fun n t H => ∃ (k : Nat) (d1 : WA), k ≤ (b - a - 1) / 2 + 1 ∧ k < n ∧ d1.size = d.size ∧ t = (slc m d.size cap, cmpF, .int .i64 (a : Int), .int .i64 0, .int .i64 ((b - a : Nat) : Int), .int .i64 ((k : Int) - 1), ()) ∧
    Sort.heapBuild ltW (b - a) a k d1 = Sort.heapBuild ltW (b - a) a ((b - a - 1) / 2 + 1) d ∧ sat H (pts m (wobj d1) * F)) ?_ ?_ ⟨(b - a - 1) / 2 + 1, d, Nat.le_refl _, by omega, rfl, by simp only [Prod.mk.injEq, Value.int.injEq, true_and, and_true]; omega, rfl, hs⟩
  · rintro n t H ⟨k, d1, hk, hn, hd1, rfl, heq, h1⟩ R hR
    simp only [RS, List.cons_append, List.nil_append, Option.isNone_some, Option.isNone_none, Option.isSome_some, Option.isSome_none, Nat.zero_add, Nat.add_zero, Nat.reduceAdd, List.getElem?_cons_zero, List.getElem?_cons_succ, List.length_cons, List.length_nil, List.all_cons, List.all_nil, Bool.and_self, Bool.and_true, Bool.true_and, Option.bind_some, Nat.reduceLeDiff, Nat.reduceEqDiff, Nat.le_refl, and_self, if_true, if_false, List.drop_zero, List.drop_succ_cons, List.take_zero, List.take_succ_cons, List.take_nil, List.drop_nil, true_and, and_true, decide_true, decide_false, Nat.reduceMul, Nat.zero_mul, Nat.one_mul, Nat.mul_one]
    cases k with
    | succ k =>
      have e : decide (((k + 1 : Nat) : Int) - 1 ≥ 0) = true := by simp only [decide_eq_true_eq]; omega
      have hk1 : ((k + 1 : Nat) : Int) - 1 = (k : Int) := by omega
      have w3 : IntKind.i64.wrap ((k : Int) - 1) = (k : Int) - 1 := w64n (by omega)
      simp only [e, RS, List.cons_append, List.nil_append, Option.isNone_some, Option.isNone_none, Option.isSome_some, Option.isSome_none, Nat.zero_add, Nat.add_zero, Nat.reduceAdd, List.getElem?_cons_zero, List.getElem?_cons_succ, List.length_cons, List.length_nil, List.all_cons, List.all_nil, Bool.and_self, Bool.and_true, Bool.true_and, Option.bind_some, Nat.reduceLeDiff, Nat.reduceEqDiff, Nat.le_refl, and_self, if_true, if_false, List.drop_zero, List.drop_succ_cons, List.take_zero, List.take_succ_cons, List.take_nil, List.drop_nil, true_and, and_true, decide_true, decide_false, Nat.reduceMul, Nat.zero_mul, Nat.one_mul, Nat.mul_one, hk1, w3]
      rw [← hd1]
      refine sift_ok (by omega) (by omega) (by omega) h1 fun H2 h2 => ?_
      rw [hd1]
      exact hR _ _ ⟨k, _, by omega, by omega, by rw [size_sift ltW (b - a) a (b - a - k) k d1 (by omega)]; exact hd1, rfl, by rw [← heq]; rfl, h2⟩
    | zero =>
      have e : decide (((0 : Nat) : Int) - 1 ≥ 0) = false := by decide
      have w3 : IntKind.i64.wrap (((b - a : Nat) : Int) - 1) = ((b - a : Nat) : Int) - 1 := w64n (by omega)
      simp only [e, RS, List.cons_append, List.nil_append, Option.isNone_some, Option.isNone_none, Option.isSome_some, Option.isSome_none, Nat.zero_add, Nat.add_zero, Nat.reduceAdd, List.getElem?_cons_zero, List.getElem?_cons_succ, List.length_cons, List.length_nil, List.all_cons, List.all_nil, Bool.and_self, Bool.and_true, Bool.true_and, Option.bind_some, Nat.reduceLeDiff, Nat.reduceEqDiff, Nat.le_refl, and_self, if_true, if_false, List.drop_zero, List.drop_succ_cons, List.take_zero, List.take_succ_cons, List.take_nil, List.drop_nil, true_and, and_true, decide_true, decide_false, Nat.reduceMul, Nat.zero_mul, Nat.one_mul, Nat.mul_one, w3]
      have hbuilt : d1 = Sort.heapBuild ltW (b - a) a ((b - a - 1) / 2 + 1) d := by rw [← heq]; rfl
      rw [← hbuilt] at hK
      refine lp_rule (fun n t H => ∃ (k : Nat) (d2 : WA), k ≤ b - a ∧ k < n ∧ d2.size = d.size ∧ t = (slc m d.size cap, cmpF, .int .i64 (a : Int), .int .i64 0, .int .i64 ((k : Int) - 1), ()) ∧
        Sort.heapPop ltW a k d2 = Sort.heapPop ltW a (b - a) d1 ∧ sat H (pts m (wobj d2) * F)) ?_ ?_ ⟨b - a, d1, Nat.le_refl _, by omega, hd1, rfl, rfl, h1⟩
      · rintro n2 t H2 ⟨k, d2, hk, hn2, hd2, rfl, heq2, h2⟩ R2 hR2
        simp only [RS, List.cons_append, List.nil_append, Option.isNone_some, Option.isNone_none, Option.isSome_some, Option.isSome_none, Nat.zero_add, Nat.add_zero, Nat.reduceAdd, List.getElem?_cons_zero, List.getElem?_cons_succ, List.length_cons, List.length_nil, List.all_cons, List.all_nil, Bool.and_self, Bool.and_true, Bool.true_and, Option.bind_some, Nat.reduceLeDiff, Nat.reduceEqDiff, Nat.le_refl, and_self, if_true, if_false, List.drop_zero, List.drop_succ_cons, List.take_zero, List.take_succ_cons, List.take_nil, List.drop_nil, true_and, and_true, decide_true, decide_false, Nat.reduceMul, Nat.zero_mul, Nat.one_mul, Nat.mul_one]
        cases k with
        | succ k =>
          have e : decide (((k + 1 : Nat) : Int) - 1 ≥ 0) = true := by simp only [decide_eq_true_eq]; omega
          have hk1 : ((k + 1 : Nat) : Int) - 1 = (k : Int) := by omega
          have w3 : IntKind.i64.wrap ((k : Int) - 1) = (k : Int) - 1 := w64n (by omega)
          have v1 : IntKind.i64.wrap ((a : Int) + (k : Int)) = ((a + k : Nat) : Int) := by rw [w64n (by omega)]; omega
          have i1 := ixw (m := m) (cap := cap) (show a < d.size by omega)
          have i2 := ixw (m := m) (cap := cap) (show a + k < d.size by omega)
          have g := (sat_get h2).1
          simp only [e, RS, List.cons_append, List.nil_append, Option.isNone_some, Option.isNone_none, Option.isSome_some, Option.isSome_none, Nat.zero_add, Nat.add_zero, Nat.reduceAdd, List.getElem?_cons_zero, List.getElem?_cons_succ, List.length_cons, List.length_nil, List.all_cons, List.all_nil, Bool.and_self, Bool.and_true, Bool.true_and, Option.bind_some, Nat.reduceLeDiff, Nat.reduceEqDiff, Nat.le_refl, and_self, if_true, if_false, List.drop_zero, List.drop_succ_cons, List.take_zero, List.take_succ_cons, List.take_nil, List.drop_nil, true_and, and_true, decide_true, decide_false, Nat.reduceMul, Nat.zero_mul, Nat.one_mul, Nat.mul_one, hk1, w3, v1, i1, i2, g, ldw (show a < d2.size by omega), ldw (show a + k < d2.size by omega), stw _ (show a < d2.size by omega), get_put_eq, stw _ (show a + k < (d2.setIfInBounds a d2[a + k]!).size by rw [size_set]; omega)]
          have h3 := sat_put (wobj (Sort.swp d2 a (a + k))) (sat_put (wobj (d2.setIfInBounds a d2[a + k]!)) h2)
          have hsw : (Sort.swp d2 a (a + k)).size = d.size := by rw [size_swp]; exact hd2
          rw [← hsw]
          refine sift_ok (root := 0) (by omega) (by omega) (by omega) h3 fun H4 h4 => ?_
          rw [hsw]
          exact hR2 _ _ ⟨k, _, by omega, by omega, by rw [size_sift ltW k a k 0 _ (by omega)]; exact hsw, rfl, by rw [← heq2]; rfl, h4⟩
        | zero =>
          have e : decide (((0 : Nat) : Int) - 1 ≥ 0) = false := by decide
          simp only [e, RS, List.cons_append, List.nil_append, Option.isNone_some, Option.isNone_none, Option.isSome_some, Option.isSome_none, Nat.zero_add, Nat.add_zero, Nat.reduceAdd, List.getElem?_cons_zero, List.getElem?_cons_succ, List.length_cons, List.length_nil, List.all_cons, List.all_nil, Bool.and_self, Bool.and_true, Bool.true_and, Option.bind_some, Nat.reduceLeDiff, Nat.reduceEqDiff, Nat.le_refl, and_self, if_true, if_false, List.drop_zero, List.drop_succ_cons, List.take_zero, List.take_succ_cons, List.take_nil, List.drop_nil, true_and, and_true, decide_true, decide_false, Nat.reduceMul, Nat.zero_mul, Nat.one_mul, Nat.mul_one]
          have : d2 = Sort.heapPop ltW a (b - a) d1 := by rw [← heq2]; rfl
          rw [← this] at hK
          exact hK _ h2
      · rintro t H2 ⟨k, d2, hk, hn2, -⟩; omega
  · rintro t H ⟨k, d1, hk, hn, -⟩; omega
/-- A part turned round. -/
theorem reverse_ok {m a b cap : Nat} {d : WA} {H : AH} {K : KV} {F : SL} (hab : a < b) (hb : b ≤ d.size) (hsz : d.size < 1000000) (hs : sat H (pts m (wobj d) * F))
    (hK : ∀ H', sat H' (pts m (wobj (Sort.reverseRange d a b)) * F) → K (.tuple ⟨[]⟩) H') :
    DS Try.prog Fi.slices_reverseRangeCmpFunc_cells_Word [slc m d.size cap, .int .i64 (a : Int), .int .i64 (b : Int), cmpF] H K := by
  refine use_slices_reverseRangeCmpFunc_cells_Word (d.size + 2) ?_
  unfold sh_slices_reverseRangeCmpFunc_cells_Word
  have w0 : IntKind.i64.wrap ((b : Int) - 1) = ((b - 1 : Nat) : Int) := by rw [w64n (by omega)]; omega
  simp only [RS, List.cons_append, List.nil_append, Option.isNone_some, Option.isNone_none, Option.isSome_some, Option.isSome_none, Nat.zero_add, Nat.add_zero, Nat.reduceAdd, List.getElem?_cons_zero, List.getElem?_cons_succ, List.length_cons, List.length_nil, List.all_cons, List.all_nil, Bool.and_self, Bool.and_true, Bool.true_and, Option.bind_some, Nat.reduceLeDiff, Nat.reduceEqDiff, Nat.le_refl, and_self, if_true, if_false, List.drop_zero, List.drop_succ_cons, List.take_zero, List.take_succ_cons, List.take_nil, List.drop_nil, true_and, and_true, decide_true, decide_false, Nat.reduceMul, Nat.zero_mul, Nat.one_mul, Nat.mul_one, w0]
  unfold Sort.reverseRange at hK
  refine lp_rule (fun n t H => ∃ (i j : Nat) (d1 : WA), j < b ∧ j + 1 < n + i ∧ i ≤ j + 1 ∧ d1.size = d.size ∧ t = (slc m d.size cap, .int .i64 (i : Int), .int .i64 (j : Int), ()) ∧
    Sort.reverseLoop i j d1 = Sort.reverseLoop a (b - 1) d ∧ sat H (pts m (wobj d1) * F)) ?_ ?_ ⟨a, b - 1, d, by omega, by omega, by omega, rfl, rfl, rfl, hs⟩
  · rintro n t H ⟨i, j, d1, hj, hn, hij, hd1, rfl, heq, h1⟩ R hR
    simp only [RS, List.cons_append, List.nil_append, Option.isNone_some, Option.isNone_none, Option.isSome_some, Option.isSome_none, Nat.zero_add, Nat.add_zero, Nat.reduceAdd, List.getElem?_cons_zero, List.getElem?_cons_succ, List.length_cons, List.length_nil, List.all_cons, List.all_nil, Bool.and_self, Bool.and_true, Bool.true_and, Option.bind_some, Nat.reduceLeDiff, Nat.reduceEqDiff, Nat.le_refl, and_self, if_true, if_false, List.drop_zero, List.drop_succ_cons, List.take_zero, List.take_succ_cons, List.take_nil, List.drop_nil, true_and, and_true, decide_true, decide_false, Nat.reduceMul, Nat.zero_mul, Nat.one_mul, Nat.mul_one]
    rw [Sort.reverseLoop] at heq
    by_cases hlt : i < j
    · have e : decide ((i : Int) < (j : Int)) = true := by simpa using hlt
      have w1 : IntKind.i64.wrap ((i : Int) + 1) = ((i + 1 : Nat) : Int) := by rw [w64n (by omega)]; omega
      have w2 : IntKind.i64.wrap ((j : Int) - 1) = ((j - 1 : Nat) : Int) := by rw [w64n (by omega)]; omega
      have i1 := ixw (m := m) (cap := cap) (show i < d.size by omega)
      have i2 := ixw (m := m) (cap := cap) (show j < d.size by omega)
      have g := (sat_get h1).1
      rw [if_pos hlt] at heq
      simp only [e, RS, List.cons_append, List.nil_append, Option.isNone_some, Option.isNone_none, Option.isSome_some, Option.isSome_none, Nat.zero_add, Nat.add_zero, Nat.reduceAdd, List.getElem?_cons_zero, List.getElem?_cons_succ, List.length_cons, List.length_nil, List.all_cons, List.all_nil, Bool.and_self, Bool.and_true, Bool.true_and, Option.bind_some, Nat.reduceLeDiff, Nat.reduceEqDiff, Nat.le_refl, and_self, if_true, if_false, List.drop_zero, List.drop_succ_cons, List.take_zero, List.take_succ_cons, List.take_nil, List.drop_nil, true_and, and_true, decide_true, decide_false, Nat.reduceMul, Nat.zero_mul, Nat.one_mul, Nat.mul_one, w1, w2, i1, i2, g, ldw (show i < d1.size by omega), ldw (show j < d1.size by omega), stw _ (show i < d1.size by omega), get_put_eq, stw _ (show j < (d1.setIfInBounds i d1[j]!).size by rw [size_set]; omega)]
      exact hR _ _ ⟨i + 1, j - 1, Sort.swp d1 i j, by omega, by omega, by omega, by rw [size_swp]; exact hd1, rfl, heq, sat_put _ (sat_put _ h1)⟩
    · have e : decide ((i : Int) < (j : Int)) = false := by simpa using hlt
      simp only [e, RS, List.cons_append, List.nil_append, Option.isNone_some, Option.isNone_none, Option.isSome_some, Option.isSome_none, Nat.zero_add, Nat.add_zero, Nat.reduceAdd, List.getElem?_cons_zero, List.getElem?_cons_succ, List.length_cons, List.length_nil, List.all_cons, List.all_nil, Bool.and_self, Bool.and_true, Bool.true_and, Option.bind_some, Nat.reduceLeDiff, Nat.reduceEqDiff, Nat.le_refl, and_self, if_true, if_false, List.drop_zero, List.drop_succ_cons, List.take_zero, List.take_succ_cons, List.take_nil, List.drop_nil, true_and, and_true, decide_true, decide_false, Nat.reduceMul, Nat.zero_mul, Nat.one_mul, Nat.mul_one]
      rw [if_neg hlt] at heq
      rw [← heq] at hK
      exact hK _ h1
  · rintro t H ⟨i, j, d1, hj, hn, hij, -⟩; omega
end Go.Proofs.Ytiolnpeniklhiaa
