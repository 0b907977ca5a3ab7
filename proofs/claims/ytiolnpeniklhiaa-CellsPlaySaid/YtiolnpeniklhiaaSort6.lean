/- slices.SortFunc over words, its parts (6): insertion sort in a few steps.
   Conditions: what stands in memory, as each states it. -/
import Derived.Test.YtiolnpeniklhiaaSort5
namespace Go.Proofs.Ytiolnpeniklhiaa
open Go Go.Ab
set_option linter.all false
set_option maxRecDepth 100000

theorem shiftDown_succ (j : Nat) (d : WA) : Sort.shiftDown ltW (j + 1) d = if !ltW d[j + 1]! d[j]! then d else Sort.shiftDown ltW j (Sort.swp d (j + 1) j) := rfl
theorem size_shiftDown : ∀ (j : Nat) (d : WA), (Sort.shiftDown ltW j d).size = d.size
  | 0, d => rfl
  | j + 1, d => by
    unfold Sort.shiftDown
    split
    · rfl
    · rw [size_shiftDown j, size_swp]
theorem size_shiftUp (b : Nat) : ∀ (n j : Nat) (d : WA), b - j ≤ n → (Sort.shiftUp ltW b j d).size = d.size := by
  intro n
  induction n with
  | zero => intro j d h; rw [Sort.shiftUp, if_neg (by omega)]
  | succ n ih =>
    intro j d h
    rw [Sort.shiftUp]
    split
    · split
      · rfl
      · rw [ih _ _ (by omega), size_swp]
    · rfl
theorem scanSorted_hi (d : WA) (b : Nat) : ∀ (n i : Nat), b - i ≤ n → i ≤ b → i ≤ Sort.scanSorted ltW d b i ∧ Sort.scanSorted ltW d b i ≤ b := by
  intro n
  induction n with
  | zero =>
    intro i h hi
    rw [Sort.scanSorted]
    split
    · rename_i hc; simp at hc; omega
    · exact ⟨Nat.le_refl _, hi⟩
  | succ n ih =>
    intro i h hi
    rw [Sort.scanSorted]
    split
    · rename_i hc; simp at hc
      have := ih (i + 1) (by omega) (by omega)
      exact ⟨by omega, this.2⟩
    · exact ⟨Nat.le_refl _, hi⟩
theorem partial_ok {m a b cap : Nat} {d : WA} {H : AH} {K : KV} {F : SL} (hab : a < b) (hb : b ≤ d.size) (hsz : d.size < 1000000) (hs : sat H (pts m (wobj d) * F))
    (hK : ∀ H', sat H' (pts m (wobj (Sort.partialInsertionSort ltW d a b).1) * F) → K (.bool (Sort.partialInsertionSort ltW d a b).2) H') :
    DS Try.prog Fi.slices_partialInsertionSortCmpFunc_cells_Word [slc m d.size cap, .int .i64 (a : Int), .int .i64 (b : Int), cmpF] H K := by
  refine use_slices_partialInsertionSortCmpFunc_cells_Word (d.size + 10) ?_
  unfold sh_slices_partialInsertionSortCmpFunc_cells_Word
  have w0 : IntKind.i64.wrap ((a : Int) + 1) = ((a + 1 : Nat) : Int) := by rw [w64n (by omega)]; omega
  have wba : IntKind.i64.wrap ((b : Int) - (a : Int)) = ((b - a : Nat) : Int) := by rw [w64n (by omega)]; omega
  simp only [RS, List.cons_append, List.nil_append, Option.isNone_some, Option.isNone_none, Option.isSome_some, Option.isSome_none, Nat.zero_add, Nat.add_zero, Nat.reduceAdd, List.getElem?_cons_zero, List.getElem?_cons_succ, List.length_cons, List.length_nil, List.all_cons, List.all_nil, Bool.and_self, Bool.and_true, Bool.true_and, Option.bind_some, Nat.reduceLeDiff, Nat.reduceEqDiff, Nat.le_refl, and_self, if_true, if_false, List.drop_zero, List.drop_succ_cons, List.take_zero, List.take_succ_cons, List.take_nil, List.drop_nil, true_and, and_true, decide_true, decide_false, Nat.reduceMul, Nat.zero_mul, Nat.one_mul, Nat.mul_one, w0]
  unfold Sort.partialInsertionSort at hK
  refine lp_rule (fun n t H => ∃ (st i : Nat) (d1 : WA), st ≤ 5 ∧ 5 < n + st ∧ a < i ∧ i ≤ b ∧ d1.size = d.size ∧ t = (slc m d.size cap, .int .i64 (a : Int), .int .i64 (b : Int), cmpF, .int .i64 (i : Int), .int .i64 (st : Int), ()) ∧
    Sort.partialIns ltW a b (5 - st) i d1 = Sort.partialIns ltW a b 5 (a + 1) d ∧ sat H (pts m (wobj d1) * F)) ?_ ?_ ⟨0, a + 1, d, by omega, by omega, by omega, by omega, rfl, rfl, rfl, hs⟩
  · rintro n t H ⟨st, i, d1, hst, hn, hi1, hi2, hd1, rfl, heq, h1⟩ R hR
    simp only [RS, List.cons_append, List.nil_append, Option.isNone_some, Option.isNone_none, Option.isSome_some, Option.isSome_none, Nat.zero_add, Nat.add_zero, Nat.reduceAdd, List.getElem?_cons_zero, List.getElem?_cons_succ, List.length_cons, List.length_nil, List.all_cons, List.all_nil, Bool.and_self, Bool.and_true, Bool.true_and, Option.bind_some, Nat.reduceLeDiff, Nat.reduceEqDiff, Nat.le_refl, and_self, if_true, if_false, List.drop_zero, List.drop_succ_cons, List.take_zero, List.take_succ_cons, List.take_nil, List.drop_nil, true_and, and_true, decide_true, decide_false, Nat.reduceMul, Nat.zero_mul, Nat.one_mul, Nat.mul_one]
    by_cases hlt : st < 5
    · have e : decide ((st : Int) < 5) = true := by simp; omega
      simp only [e, RS, List.cons_append, List.nil_append, Option.isNone_some, Option.isNone_none, Option.isSome_some, Option.isSome_none, Nat.zero_add, Nat.add_zero, Nat.reduceAdd, List.getElem?_cons_zero, List.getElem?_cons_succ, List.length_cons, List.length_nil, List.all_cons, List.all_nil, Bool.and_self, Bool.and_true, Bool.true_and, Option.bind_some, Nat.reduceLeDiff, Nat.reduceEqDiff, Nat.le_refl, and_self, if_true, if_false, List.drop_zero, List.drop_succ_cons, List.take_zero, List.take_succ_cons, List.take_nil, List.drop_nil, true_and, and_true, decide_true, decide_false, Nat.reduceMul, Nat.zero_mul, Nat.one_mul, Nat.mul_one]
      rw [show 5 - st = (5 - (st + 1)) + 1 by omega, Sort.partialIns_succ] at heq
      refine jn_rule (fun t H => ∃ (i2 : Nat) (d2 : WA), a < i2 ∧ i2 ≤ b ∧ d2.size = d.size ∧ t = (slc m d.size cap, .int .i64 (a : Int), .int .i64 (b : Int), cmpF, .int .i64 (i2 : Int), .int .i64 (st : Int), ()) ∧
        Sort.partialIns ltW a b (5 - (st + 1)) i2 d2 = Sort.partialIns ltW a b 5 (a + 1) d ∧ sat H (pts m (wobj d2) * F)) ?_ ?_
      · rintro t H2 ⟨i2, d2, k1, k2, k3, rfl, heq2, h2⟩
        have w1 : IntKind.i64.wrap ((st : Int) + 1) = ((st + 1 : Nat) : Int) := by rw [w64n (by omega)]; omega
        simp only [RS, List.cons_append, List.nil_append, Option.isNone_some, Option.isNone_none, Option.isSome_some, Option.isSome_none, Nat.zero_add, Nat.add_zero, Nat.reduceAdd, List.getElem?_cons_zero, List.getElem?_cons_succ, List.length_cons, List.length_nil, List.all_cons, List.all_nil, Bool.and_self, Bool.and_true, Bool.true_and, Option.bind_some, Nat.reduceLeDiff, Nat.reduceEqDiff, Nat.le_refl, and_self, if_true, if_false, List.drop_zero, List.drop_succ_cons, List.take_zero, List.take_succ_cons, List.take_nil, List.drop_nil, true_and, and_true, decide_true, decide_false, Nat.reduceMul, Nat.zero_mul, Nat.one_mul, Nat.mul_one, w1]
        exact hR _ _ ⟨st + 1, i2, d2, by omega, by omega, k1, k2, k3, rfl, heq2, h2⟩
      · intro R8 hR8
        refine jn_rule (fun t H => t = (slc m d.size cap, .int .i64 (a : Int), .int .i64 (b : Int), cmpF, .int .i64 ((Sort.scanSorted ltW d1 b i : Nat) : Int), .int .i64 (st : Int), ()) ∧ sat H (pts m (wobj d1) * F)) ?_ ?_
        · rintro t H2 ⟨rfl, h2⟩
          have hsc := scanSorted_hi d1 b _ i (Nat.le_refl _) hi2
          revert heq hsc
          generalize Sort.scanSorted ltW d1 b i = k
          intro heq hsc
          simp only [RS, List.cons_append, List.nil_append, Option.isNone_some, Option.isNone_none, Option.isSome_some, Option.isSome_none, Nat.zero_add, Nat.add_zero, Nat.reduceAdd, List.getElem?_cons_zero, List.getElem?_cons_succ, List.length_cons, List.length_nil, List.all_cons, List.all_nil, Bool.and_self, Bool.and_true, Bool.true_and, Option.bind_some, Nat.reduceLeDiff, Nat.reduceEqDiff, Nat.le_refl, and_self, if_true, if_false, List.drop_zero, List.drop_succ_cons, List.take_zero, List.take_succ_cons, List.take_nil, List.drop_nil, true_and, and_true, decide_true, decide_false, Nat.reduceMul, Nat.zero_mul, Nat.one_mul, Nat.mul_one]
          by_cases hkb : k = b
          · have e2 : ((k : Int) == (b : Int)) = true := by simp [hkb]
            simp only [e2, RS, List.cons_append, List.nil_append, Option.isNone_some, Option.isNone_none, Option.isSome_some, Option.isSome_none, Nat.zero_add, Nat.add_zero, Nat.reduceAdd, List.getElem?_cons_zero, List.getElem?_cons_succ, List.length_cons, List.length_nil, List.all_cons, List.all_nil, Bool.and_self, Bool.and_true, Bool.true_and, Option.bind_some, Nat.reduceLeDiff, Nat.reduceEqDiff, Nat.le_refl, and_self, if_true, if_false, List.drop_zero, List.drop_succ_cons, List.take_zero, List.take_succ_cons, List.take_nil, List.drop_nil, true_and, and_true, decide_true, decide_false, Nat.reduceMul, Nat.zero_mul, Nat.one_mul, Nat.mul_one]
            rw [if_pos hkb] at heq
            rw [← heq] at hK
            exact hK _ h2
          · have e2 : ((k : Int) == (b : Int)) = false := by simp; omega
            rw [if_neg hkb] at heq
            simp only [e2, RS, List.cons_append, List.nil_append, Option.isNone_some, Option.isNone_none, Option.isSome_some, Option.isSome_none, Nat.zero_add, Nat.add_zero, Nat.reduceAdd, List.getElem?_cons_zero, List.getElem?_cons_succ, List.length_cons, List.length_nil, List.all_cons, List.all_nil, Bool.and_self, Bool.and_true, Bool.true_and, Option.bind_some, Nat.reduceLeDiff, Nat.reduceEqDiff, Nat.le_refl, and_self, if_true, if_false, List.drop_zero, List.drop_succ_cons, List.take_zero, List.take_succ_cons, List.take_nil, List.drop_nil, true_and, and_true, decide_true, decide_false, Nat.reduceMul, Nat.zero_mul, Nat.one_mul, Nat.mul_one, wba]
            by_cases h50 : b - a < 50
            · have e3 : decide (((b - a : Nat) : Int) < 50) = true := by simp; omega
              simp only [e3, RS, List.cons_append, List.nil_append, Option.isNone_some, Option.isNone_none, Option.isSome_some, Option.isSome_none, Nat.zero_add, Nat.add_zero, Nat.reduceAdd, List.getElem?_cons_zero, List.getElem?_cons_succ, List.length_cons, List.length_nil, List.all_cons, List.all_nil, Bool.and_self, Bool.and_true, Bool.true_and, Option.bind_some, Nat.reduceLeDiff, Nat.reduceEqDiff, Nat.le_refl, and_self, if_true, if_false, List.drop_zero, List.drop_succ_cons, List.take_zero, List.take_succ_cons, List.take_nil, List.drop_nil, true_and, and_true, decide_true, decide_false, Nat.reduceMul, Nat.zero_mul, Nat.one_mul, Nat.mul_one]
              rw [if_pos h50] at heq
              rw [← heq] at hK
              exact hK _ h2
            · have e3 : decide (((b - a : Nat) : Int) < 50) = false := by simp; omega
              rw [if_neg h50] at heq
              have wk1 : IntKind.i64.wrap ((k : Int) - 1) = ((k - 1 : Nat) : Int) := by rw [w64n (by omega)]; omega
              have g2 := (sat_get h2).1
              have ik := ixw (m := m) (cap := cap) (show k < d.size by omega)
              have ik1 := ixw (m := m) (cap := cap) (show k - 1 < d.size by omega)
              simp only [e3, RS, List.cons_append, List.nil_append, Option.isNone_some, Option.isNone_none, Option.isSome_some, Option.isSome_none, Nat.zero_add, Nat.add_zero, Nat.reduceAdd, List.getElem?_cons_zero, List.getElem?_cons_succ, List.length_cons, List.length_nil, List.all_cons, List.all_nil, Bool.and_self, Bool.and_true, Bool.true_and, Option.bind_some, Nat.reduceLeDiff, Nat.reduceEqDiff, Nat.le_refl, and_self, if_true, if_false, List.drop_zero, List.drop_succ_cons, List.take_zero, List.take_succ_cons, List.take_nil, List.drop_nil, true_and, and_true, decide_true, decide_false, Nat.reduceMul, Nat.zero_mul, Nat.one_mul, Nat.mul_one, wk1, ik, ik1, g2, ldw (show k < d1.size by omega), ldw (show k - 1 < d1.size by omega), stw _ (show k < d1.size by omega), get_put_eq, stw _ (show k - 1 < (d1.setIfInBounds k d1[k - 1]!).size by rw [size_set]; omega)]
              have h3 : sat _ (pts m (wobj (Sort.swp d1 k (k - 1))) * F) := sat_put (wobj (Sort.swp d1 k (k - 1))) (sat_put (wobj (d1.setIfInBounds k d1[k - 1]!)) h2)
              rw [show (d1.setIfInBounds k d1[k - 1]!).setIfInBounds (k - 1) d1[k]! = Sort.swp d1 k (k - 1) from rfl]
              revert h3
              generalize hH1 : AH.put (AH.put H2 m _) m (wobj (Sort.swp d1 k (k - 1))) = H3
              intro h3
              have hD : (Sort.swp d1 k (k - 1)).size = d.size := by rw [size_swp]; exact hd1
              revert h3 heq hD
              generalize Sort.swp d1 k (k - 1) = D1
              intro heq h3 hD
              -- down
              refine jn_rule (fun t H => t = (slc m d.size cap, .int .i64 (a : Int), .int .i64 (b : Int), cmpF, .int .i64 (k : Int), .int .i64 (st : Int), ()) ∧ sat H (pts m (wobj (Sort.fixDown ltW a k D1)) * F)) ?_ ?_
              · rintro t H4 ⟨rfl, h4⟩
                have hD2 : (Sort.fixDown ltW a k D1).size = d.size := by
                  unfold Sort.fixDown; split
                  · rw [size_shiftDown]; exact hD
                  · exact hD
                revert heq h4 hD2
                generalize Sort.fixDown ltW a k D1 = D2
                intro heq h4 hD2
                have wbk : IntKind.i64.wrap ((b : Int) - (k : Int)) = ((b - k : Nat) : Int) := by rw [w64n (by omega)]; omega
                have wk2 : IntKind.i64.wrap ((k : Int) + 1) = ((k + 1 : Nat) : Int) := by rw [w64n (by omega)]; omega
                simp only [RS, List.cons_append, List.nil_append, Option.isNone_some, Option.isNone_none, Option.isSome_some, Option.isSome_none, Nat.zero_add, Nat.add_zero, Nat.reduceAdd, List.getElem?_cons_zero, List.getElem?_cons_succ, List.length_cons, List.length_nil, List.all_cons, List.all_nil, Bool.and_self, Bool.and_true, Bool.true_and, Option.bind_some, Nat.reduceLeDiff, Nat.reduceEqDiff, Nat.le_refl, and_self, if_true, if_false, List.drop_zero, List.drop_succ_cons, List.take_zero, List.take_succ_cons, List.take_nil, List.drop_nil, true_and, and_true, decide_true, decide_false, Nat.reduceMul, Nat.zero_mul, Nat.one_mul, Nat.mul_one, wbk, wk2]
                unfold Sort.fixUp at heq
                by_cases hbk : b - k ≥ 2
                · have e4 : decide (((b - k : Nat) : Int) ≥ 2) = true := by simp; omega
                  rw [if_pos hbk] at heq
                  simp only [e4, RS, List.cons_append, List.nil_append, Option.isNone_some, Option.isNone_none, Option.isSome_some, Option.isSome_none, Nat.zero_add, Nat.add_zero, Nat.reduceAdd, List.getElem?_cons_zero, List.getElem?_cons_succ, List.length_cons, List.length_nil, List.all_cons, List.all_nil, Bool.and_self, Bool.and_true, Bool.true_and, Option.bind_some, Nat.reduceLeDiff, Nat.reduceEqDiff, Nat.le_refl, and_self, if_true, if_false, List.drop_zero, List.drop_succ_cons, List.take_zero, List.take_succ_cons, List.take_nil, List.drop_nil, true_and, and_true, decide_true, decide_false, Nat.reduceMul, Nat.zero_mul, Nat.one_mul, Nat.mul_one]
                  refine lp_rule (fun n t H => ∃ (j : Nat) (D3 : WA), 1 ≤ j ∧ j ≤ b ∧ b < n + j ∧ D3.size = d.size ∧ t = (slc m d.size cap, .int .i64 (a : Int), .int .i64 (b : Int), cmpF, .int .i64 (k : Int), .int .i64 (st : Int), .int .i64 (j : Int), ()) ∧
                    Sort.shiftUp ltW b j D3 = Sort.shiftUp ltW b (k + 1) D2 ∧ sat H (pts m (wobj D3) * F)) ?_ ?_ ⟨k + 1, D2, by omega, by omega, by omega, hD2, rfl, rfl, h4⟩
                  · rintro n2 t H5 ⟨j, D3, j1, j2, hn2, hD3, rfl, heq3, h5⟩ R2 hR2
                    have wj1 : IntKind.i64.wrap ((j : Int) - 1) = ((j - 1 : Nat) : Int) := by rw [w64n (by omega)]; omega
                    have wj2 : IntKind.i64.wrap ((j : Int) + 1) = ((j + 1 : Nat) : Int) := by rw [w64n (by omega)]; omega
                    simp only [RS, List.cons_append, List.nil_append, Option.isNone_some, Option.isNone_none, Option.isSome_some, Option.isSome_none, Nat.zero_add, Nat.add_zero, Nat.reduceAdd, List.getElem?_cons_zero, List.getElem?_cons_succ, List.length_cons, List.length_nil, List.all_cons, List.all_nil, Bool.and_self, Bool.and_true, Bool.true_and, Option.bind_some, Nat.reduceLeDiff, Nat.reduceEqDiff, Nat.le_refl, and_self, if_true, if_false, List.drop_zero, List.drop_succ_cons, List.take_zero, List.take_succ_cons, List.take_nil, List.drop_nil, true_and, and_true, decide_true, decide_false, Nat.reduceMul, Nat.zero_mul, Nat.one_mul, Nat.mul_one, wj1]
                    rw [Sort.shiftUp] at heq3
                    by_cases hjb : j < b
                    · have e5 : decide ((j : Int) < (b : Int)) = true := by simpa using hjb
                      rw [if_pos hjb] at heq3
                      have g5 := (sat_get h5).1
                      have ij := ixw (m := m) (cap := cap) (show j < d.size by omega)
                      have ij1 := ixw (m := m) (cap := cap) (show j - 1 < d.size by omega)
                      simp only [e5, RS, List.cons_append, List.nil_append, Option.isNone_some, Option.isNone_none, Option.isSome_some, Option.isSome_none, Nat.zero_add, Nat.add_zero, Nat.reduceAdd, List.getElem?_cons_zero, List.getElem?_cons_succ, List.length_cons, List.length_nil, List.all_cons, List.all_nil, Bool.and_self, Bool.and_true, Bool.true_and, Option.bind_some, Nat.reduceLeDiff, Nat.reduceEqDiff, Nat.le_refl, and_self, if_true, if_false, List.drop_zero, List.drop_succ_cons, List.take_zero, List.take_succ_cons, List.take_nil, List.drop_nil, true_and, and_true, decide_true, decide_false, Nat.reduceMul, Nat.zero_mul, Nat.one_mul, Nat.mul_one, ij, ij1, g5, ldw (show j < D3.size by omega), ldw (show j - 1 < D3.size by omega)]
                      refine cmp_ok h5 fun H6 h6 => ?_
                      have g6 := (sat_get h6).1
                      simp only [RS, List.cons_append, List.nil_append, Option.isNone_some, Option.isNone_none, Option.isSome_some, Option.isSome_none, Nat.zero_add, Nat.add_zero, Nat.reduceAdd, List.getElem?_cons_zero, List.getElem?_cons_succ, List.length_cons, List.length_nil, List.all_cons, List.all_nil, Bool.and_self, Bool.and_true, Bool.true_and, Option.bind_some, Nat.reduceLeDiff, Nat.reduceEqDiff, Nat.le_refl, and_self, if_true, if_false, List.drop_zero, List.drop_succ_cons, List.take_zero, List.take_succ_cons, List.take_nil, List.drop_nil, true_and, and_true, decide_true, decide_false, Nat.reduceMul, Nat.zero_mul, Nat.one_mul, Nat.mul_one, cmpI_lt]
                      cases hl : ltW D3[j]! D3[j - 1]! with
                      | false =>
                        simp only [hl, Bool.not_false, if_true] at heq3
                        simp only [RS, List.cons_append, List.nil_append, Option.isNone_some, Option.isNone_none, Option.isSome_some, Option.isSome_none, Nat.zero_add, Nat.add_zero, Nat.reduceAdd, List.getElem?_cons_zero, List.getElem?_cons_succ, List.length_cons, List.length_nil, List.all_cons, List.all_nil, Bool.and_self, Bool.and_true, Bool.true_and, Option.bind_some, Nat.reduceLeDiff, Nat.reduceEqDiff, Nat.le_refl, and_self, if_true, if_false, List.drop_zero, List.drop_succ_cons, List.take_zero, List.take_succ_cons, List.take_nil, List.drop_nil, true_and, and_true, decide_true, decide_false, Nat.reduceMul, Nat.zero_mul, Nat.one_mul, Nat.mul_one, Bool.not_false]
                        rw [heq3] at h6
                        exact hR8 _ _ ⟨k, _, by omega, by omega, by rw [size_shiftUp b _ _ _ (Nat.le_refl _)]; exact hD2, rfl, heq, h6⟩
                      | true =>
                        simp only [hl, Bool.not_true, Bool.false_eq_true, if_false] at heq3
                        simp only [RS, List.cons_append, List.nil_append, Option.isNone_some, Option.isNone_none, Option.isSome_some, Option.isSome_none, Nat.zero_add, Nat.add_zero, Nat.reduceAdd, List.getElem?_cons_zero, List.getElem?_cons_succ, List.length_cons, List.length_nil, List.all_cons, List.all_nil, Bool.and_self, Bool.and_true, Bool.true_and, Option.bind_some, Nat.reduceLeDiff, Nat.reduceEqDiff, Nat.le_refl, and_self, if_true, if_false, List.drop_zero, List.drop_succ_cons, List.take_zero, List.take_succ_cons, List.take_nil, List.drop_nil, true_and, and_true, decide_true, decide_false, Nat.reduceMul, Nat.zero_mul, Nat.one_mul, Nat.mul_one, Bool.not_true, wj1, wj2, ij, ij1, g6, ldw (show j < D3.size by omega), ldw (show j - 1 < D3.size by omega), stw _ (show j < D3.size by omega), get_put_eq, stw _ (show j - 1 < (D3.setIfInBounds j D3[j - 1]!).size by rw [size_set]; omega)]
                        exact hR2 _ _ ⟨j + 1, Sort.swp D3 j (j - 1), by omega, by omega, by omega, by rw [size_swp]; exact hD3, rfl, heq3, sat_put _ (sat_put _ h6)⟩
                    · have e5 : decide ((j : Int) < (b : Int)) = false := by simpa using hjb
                      rw [if_neg hjb] at heq3
                      simp only [e5, RS, List.cons_append, List.nil_append, Option.isNone_some, Option.isNone_none, Option.isSome_some, Option.isSome_none, Nat.zero_add, Nat.add_zero, Nat.reduceAdd, List.getElem?_cons_zero, List.getElem?_cons_succ, List.length_cons, List.length_nil, List.all_cons, List.all_nil, Bool.and_self, Bool.and_true, Bool.true_and, Option.bind_some, Nat.reduceLeDiff, Nat.reduceEqDiff, Nat.le_refl, and_self, if_true, if_false, List.drop_zero, List.drop_succ_cons, List.take_zero, List.take_succ_cons, List.take_nil, List.drop_nil, true_and, and_true, decide_true, decide_false, Nat.reduceMul, Nat.zero_mul, Nat.one_mul, Nat.mul_one]
                      rw [heq3] at h5
                      exact hR8 _ _ ⟨k, _, by omega, by omega, by rw [size_shiftUp b _ _ _ (Nat.le_refl _)]; exact hD2, rfl, heq, h5⟩
                  · rintro t H5 ⟨j, D3, j1, j2, hn2, -⟩; omega
                · have e4 : decide (((b - k : Nat) : Int) ≥ 2) = false := by simp; omega
                  rw [if_neg hbk] at heq
                  simp only [e4, RS, List.cons_append, List.nil_append, Option.isNone_some, Option.isNone_none, Option.isSome_some, Option.isSome_none, Nat.zero_add, Nat.add_zero, Nat.reduceAdd, List.getElem?_cons_zero, List.getElem?_cons_succ, List.length_cons, List.length_nil, List.all_cons, List.all_nil, Bool.and_self, Bool.and_true, Bool.true_and, Option.bind_some, Nat.reduceLeDiff, Nat.reduceEqDiff, Nat.le_refl, and_self, if_true, if_false, List.drop_zero, List.drop_succ_cons, List.take_zero, List.take_succ_cons, List.take_nil, List.drop_nil, true_and, and_true, decide_true, decide_false, Nat.reduceMul, Nat.zero_mul, Nat.one_mul, Nat.mul_one]
                  exact hR8 _ _ ⟨k, D2, by omega, by omega, hD2, rfl, heq, h4⟩
              · intro R59 hR59
                have wka : IntKind.i64.wrap ((k : Int) - (a : Int)) = ((k - a : Nat) : Int) := by rw [w64n (by omega)]; omega
                simp only [RS, List.cons_append, List.nil_append, Option.isNone_some, Option.isNone_none, Option.isSome_some, Option.isSome_none, Nat.zero_add, Nat.add_zero, Nat.reduceAdd, List.getElem?_cons_zero, List.getElem?_cons_succ, List.length_cons, List.length_nil, List.all_cons, List.all_nil, Bool.and_self, Bool.and_true, Bool.true_and, Option.bind_some, Nat.reduceLeDiff, Nat.reduceEqDiff, Nat.le_refl, and_self, if_true, if_false, List.drop_zero, List.drop_succ_cons, List.take_zero, List.take_succ_cons, List.take_nil, List.drop_nil, true_and, and_true, decide_true, decide_false, Nat.reduceMul, Nat.zero_mul, Nat.one_mul, Nat.mul_one, wka]
                unfold Sort.fixDown at hR59
                by_cases hka : k - a ≥ 2
                · have e4 : decide (((k - a : Nat) : Int) ≥ 2) = true := by simp; omega
                  rw [if_pos hka] at hR59
                  simp only [e4, RS, List.cons_append, List.nil_append, Option.isNone_some, Option.isNone_none, Option.isSome_some, Option.isSome_none, Nat.zero_add, Nat.add_zero, Nat.reduceAdd, List.getElem?_cons_zero, List.getElem?_cons_succ, List.length_cons, List.length_nil, List.all_cons, List.all_nil, Bool.and_self, Bool.and_true, Bool.true_and, Option.bind_some, Nat.reduceLeDiff, Nat.reduceEqDiff, Nat.le_refl, and_self, if_true, if_false, List.drop_zero, List.drop_succ_cons, List.take_zero, List.take_succ_cons, List.take_nil, List.drop_nil, true_and, and_true, decide_true, decide_false, Nat.reduceMul, Nat.zero_mul, Nat.one_mul, Nat.mul_one, wk1]
                  refine lp_rule (fun n t H => ∃ (j : Nat) (D3 : WA), j < b ∧ j < n ∧ D3.size = d.size ∧ t = (slc m d.size cap, .int .i64 (a : Int), .int .i64 (b : Int), cmpF, .int .i64 (k : Int), .int .i64 (st : Int), .int .i64 (j : Int), ()) ∧
                    Sort.shiftDown ltW j D3 = Sort.shiftDown ltW (k - 1) D1 ∧ sat H (pts m (wobj D3) * F)) ?_ ?_ ⟨k - 1, D1, by omega, by omega, hD, rfl, rfl, h3⟩
                  · rintro n2 t H5 ⟨j, D3, j1, hn2, hD3, rfl, heq3, h5⟩ R2 hR2
                    simp only [RS, List.cons_append, List.nil_append, Option.isNone_some, Option.isNone_none, Option.isSome_some, Option.isSome_none, Nat.zero_add, Nat.add_zero, Nat.reduceAdd, List.getElem?_cons_zero, List.getElem?_cons_succ, List.length_cons, List.length_nil, List.all_cons, List.all_nil, Bool.and_self, Bool.and_true, Bool.true_and, Option.bind_some, Nat.reduceLeDiff, Nat.reduceEqDiff, Nat.le_refl, and_self, if_true, if_false, List.drop_zero, List.drop_succ_cons, List.take_zero, List.take_succ_cons, List.take_nil, List.drop_nil, true_and, and_true, decide_true, decide_false, Nat.reduceMul, Nat.zero_mul, Nat.one_mul, Nat.mul_one]
                    cases j with
                    | zero =>
                      have e5 : decide (((0 : Nat) : Int) ≥ 1) = false := by decide
                      simp only [e5, RS, List.cons_append, List.nil_append, Option.isNone_some, Option.isNone_none, Option.isSome_some, Option.isSome_none, Nat.zero_add, Nat.add_zero, Nat.reduceAdd, List.getElem?_cons_zero, List.getElem?_cons_succ, List.length_cons, List.length_nil, List.all_cons, List.all_nil, Bool.and_self, Bool.and_true, Bool.true_and, Option.bind_some, Nat.reduceLeDiff, Nat.reduceEqDiff, Nat.le_refl, and_self, if_true, if_false, List.drop_zero, List.drop_succ_cons, List.take_zero, List.take_succ_cons, List.take_nil, List.drop_nil, true_and, and_true, decide_true, decide_false, Nat.reduceMul, Nat.zero_mul, Nat.one_mul, Nat.mul_one]
                      have : D3 = Sort.shiftDown ltW (k - 1) D1 := by rw [← heq3]; rfl
                      rw [this] at h5
                      exact hR59 _ _ ⟨rfl, h5⟩
                    | succ j =>
                      have e5 : decide (((j + 1 : Nat) : Int) ≥ 1) = true := by simp; omega
                      have wj1 : IntKind.i64.wrap (((j + 1 : Nat) : Int) - 1) = (j : Int) := by rw [w64n (by omega)]; omega
                      rw [shiftDown_succ] at heq3
                      have g5 := (sat_get h5).1
                      have ij := ixw (m := m) (cap := cap) (show j + 1 < d.size by omega)
                      have ij1 := ixw (m := m) (cap := cap) (show j < d.size by omega)
                      simp only [e5, RS, List.cons_append, List.nil_append, Option.isNone_some, Option.isNone_none, Option.isSome_some, Option.isSome_none, Nat.zero_add, Nat.add_zero, Nat.reduceAdd, List.getElem?_cons_zero, List.getElem?_cons_succ, List.length_cons, List.length_nil, List.all_cons, List.all_nil, Bool.and_self, Bool.and_true, Bool.true_and, Option.bind_some, Nat.reduceLeDiff, Nat.reduceEqDiff, Nat.le_refl, and_self, if_true, if_false, List.drop_zero, List.drop_succ_cons, List.take_zero, List.take_succ_cons, List.take_nil, List.drop_nil, true_and, and_true, decide_true, decide_false, Nat.reduceMul, Nat.zero_mul, Nat.one_mul, Nat.mul_one, wj1, ij, ij1, g5, ldw (show j + 1 < D3.size by omega), ldw (show j < D3.size by omega)]
                      refine cmp_ok h5 fun H6 h6 => ?_
                      have g6 := (sat_get h6).1
                      simp only [RS, List.cons_append, List.nil_append, Option.isNone_some, Option.isNone_none, Option.isSome_some, Option.isSome_none, Nat.zero_add, Nat.add_zero, Nat.reduceAdd, List.getElem?_cons_zero, List.getElem?_cons_succ, List.length_cons, List.length_nil, List.all_cons, List.all_nil, Bool.and_self, Bool.and_true, Bool.true_and, Option.bind_some, Nat.reduceLeDiff, Nat.reduceEqDiff, Nat.le_refl, and_self, if_true, if_false, List.drop_zero, List.drop_succ_cons, List.take_zero, List.take_succ_cons, List.take_nil, List.drop_nil, true_and, and_true, decide_true, decide_false, Nat.reduceMul, Nat.zero_mul, Nat.one_mul, Nat.mul_one, cmpI_lt]
                      cases hl : ltW D3[j + 1]! D3[j]! with
                      | false =>
                        rw [hl, if_pos (by rfl)] at heq3
                        simp only [RS, List.cons_append, List.nil_append, Option.isNone_some, Option.isNone_none, Option.isSome_some, Option.isSome_none, Nat.zero_add, Nat.add_zero, Nat.reduceAdd, List.getElem?_cons_zero, List.getElem?_cons_succ, List.length_cons, List.length_nil, List.all_cons, List.all_nil, Bool.and_self, Bool.and_true, Bool.true_and, Option.bind_some, Nat.reduceLeDiff, Nat.reduceEqDiff, Nat.le_refl, and_self, if_true, if_false, List.drop_zero, List.drop_succ_cons, List.take_zero, List.take_succ_cons, List.take_nil, List.drop_nil, true_and, and_true, decide_true, decide_false, Nat.reduceMul, Nat.zero_mul, Nat.one_mul, Nat.mul_one, Bool.not_false]
                        rw [heq3] at h6
                        exact hR59 _ _ ⟨rfl, h6⟩
                      | true =>
                        rw [hl, if_neg (by simp)] at heq3
                        simp only [RS, List.cons_append, List.nil_append, Option.isNone_some, Option.isNone_none, Option.isSome_some, Option.isSome_none, Nat.zero_add, Nat.add_zero, Nat.reduceAdd, List.getElem?_cons_zero, List.getElem?_cons_succ, List.length_cons, List.length_nil, List.all_cons, List.all_nil, Bool.and_self, Bool.and_true, Bool.true_and, Option.bind_some, Nat.reduceLeDiff, Nat.reduceEqDiff, Nat.le_refl, and_self, if_true, if_false, List.drop_zero, List.drop_succ_cons, List.take_zero, List.take_succ_cons, List.take_nil, List.drop_nil, true_and, and_true, decide_true, decide_false, Nat.reduceMul, Nat.zero_mul, Nat.one_mul, Nat.mul_one, Bool.not_true, wj1, ij, ij1, g6, ldw (show j + 1 < D3.size by omega), ldw (show j < D3.size by omega), stw _ (show j + 1 < D3.size by omega), get_put_eq, stw _ (show j < (D3.setIfInBounds (j + 1) D3[j]!).size by rw [size_set]; omega)]
                        exact hR2 _ _ ⟨j, Sort.swp D3 (j + 1) j, by omega, by omega, by rw [size_swp]; exact hD3, rfl, heq3, sat_put _ (sat_put _ h6)⟩
                  · rintro t H5 ⟨j, D3, j1, hn2, -⟩; omega
                · have e4 : decide (((k - a : Nat) : Int) ≥ 2) = false := by simp; omega
                  rw [if_neg hka] at hR59
                  simp only [e4, RS, List.cons_append, List.nil_append, Option.isNone_some, Option.isNone_none, Option.isSome_some, Option.isSome_none, Nat.zero_add, Nat.add_zero, Nat.reduceAdd, List.getElem?_cons_zero, List.getElem?_cons_succ, List.length_cons, List.length_nil, List.all_cons, List.all_nil, Bool.and_self, Bool.and_true, Bool.true_and, Option.bind_some, Nat.reduceLeDiff, Nat.reduceEqDiff, Nat.le_refl, and_self, if_true, if_false, List.drop_zero, List.drop_succ_cons, List.take_zero, List.take_succ_cons, List.take_nil, List.drop_nil, true_and, and_true, decide_true, decide_false, Nat.reduceMul, Nat.zero_mul, Nat.one_mul, Nat.mul_one]
                  exact hR59 _ _ ⟨rfl, h3⟩
        · intro R89 hR89
          refine lp_rule (fun n t H => ∃ j : Nat, a < j ∧ j ≤ b ∧ b < n + j ∧ t = (slc m d.size cap, .int .i64 (a : Int), .int .i64 (b : Int), cmpF, .int .i64 (j : Int), .int .i64 (st : Int), ()) ∧
            Sort.scanSorted ltW d1 b j = Sort.scanSorted ltW d1 b i ∧ sat H (pts m (wobj d1) * F)) ?_ ?_ ⟨i, by omega, by omega, by omega, rfl, rfl, h1⟩
          · rintro n2 t H2 ⟨j, j1, j2, hn2, rfl, heq2, h2⟩ R2 hR2
            have wj1 : IntKind.i64.wrap ((j : Int) - 1) = ((j - 1 : Nat) : Int) := by rw [w64n (by omega)]; omega
            have wj2 : IntKind.i64.wrap ((j : Int) + 1) = ((j + 1 : Nat) : Int) := by rw [w64n (by omega)]; omega
            simp only [RS, List.cons_append, List.nil_append, Option.isNone_some, Option.isNone_none, Option.isSome_some, Option.isSome_none, Nat.zero_add, Nat.add_zero, Nat.reduceAdd, List.getElem?_cons_zero, List.getElem?_cons_succ, List.length_cons, List.length_nil, List.all_cons, List.all_nil, Bool.and_self, Bool.and_true, Bool.true_and, Option.bind_some, Nat.reduceLeDiff, Nat.reduceEqDiff, Nat.le_refl, and_self, if_true, if_false, List.drop_zero, List.drop_succ_cons, List.take_zero, List.take_succ_cons, List.take_nil, List.drop_nil, true_and, and_true, decide_true, decide_false, Nat.reduceMul, Nat.zero_mul, Nat.one_mul, Nat.mul_one, wj2]
            rw [Sort.scanSorted] at heq2
            by_cases hjb : j < b
            · have e5 : decide ((j : Int) < (b : Int)) = true := by simpa using hjb
              have e6 : decide (j < b) = true := by simpa using hjb
              have g2 := (sat_get h2).1
              have ij := ixw (m := m) (cap := cap) (show j < d.size by omega)
              have ij1 := ixw (m := m) (cap := cap) (show j - 1 < d.size by omega)
              simp only [e5, RS, List.cons_append, List.nil_append, Option.isNone_some, Option.isNone_none, Option.isSome_some, Option.isSome_none, Nat.zero_add, Nat.add_zero, Nat.reduceAdd, List.getElem?_cons_zero, List.getElem?_cons_succ, List.length_cons, List.length_nil, List.all_cons, List.all_nil, Bool.and_self, Bool.and_true, Bool.true_and, Option.bind_some, Nat.reduceLeDiff, Nat.reduceEqDiff, Nat.le_refl, and_self, if_true, if_false, List.drop_zero, List.drop_succ_cons, List.take_zero, List.take_succ_cons, List.take_nil, List.drop_nil, true_and, and_true, decide_true, decide_false, Nat.reduceMul, Nat.zero_mul, Nat.one_mul, Nat.mul_one, wj1, ij, ij1, g2, ldw (show j < d1.size by omega), ldw (show j - 1 < d1.size by omega)]
              refine cmp_ok h2 fun H6 h6 => ?_
              simp only [RS, List.cons_append, List.nil_append, Option.isNone_some, Option.isNone_none, Option.isSome_some, Option.isSome_none, Nat.zero_add, Nat.add_zero, Nat.reduceAdd, List.getElem?_cons_zero, List.getElem?_cons_succ, List.length_cons, List.length_nil, List.all_cons, List.all_nil, Bool.and_self, Bool.and_true, Bool.true_and, Option.bind_some, Nat.reduceLeDiff, Nat.reduceEqDiff, Nat.le_refl, and_self, if_true, if_false, List.drop_zero, List.drop_succ_cons, List.take_zero, List.take_succ_cons, List.take_nil, List.drop_nil, true_and, and_true, decide_true, decide_false, Nat.reduceMul, Nat.zero_mul, Nat.one_mul, Nat.mul_one, cmpI_lt]
              cases hl : ltW d1[j]! d1[j - 1]! with
              | false =>
                simp only [e6, hl, Bool.not_false, Bool.and_self, if_true] at heq2
                simp only [RS, List.cons_append, List.nil_append, Option.isNone_some, Option.isNone_none, Option.isSome_some, Option.isSome_none, Nat.zero_add, Nat.add_zero, Nat.reduceAdd, List.getElem?_cons_zero, List.getElem?_cons_succ, List.length_cons, List.length_nil, List.all_cons, List.all_nil, Bool.and_self, Bool.and_true, Bool.true_and, Option.bind_some, Nat.reduceLeDiff, Nat.reduceEqDiff, Nat.le_refl, and_self, if_true, if_false, List.drop_zero, List.drop_succ_cons, List.take_zero, List.take_succ_cons, List.take_nil, List.drop_nil, true_and, and_true, decide_true, decide_false, Nat.reduceMul, Nat.zero_mul, Nat.one_mul, Nat.mul_one, Bool.not_false, wj2]
                exact hR2 _ _ ⟨j + 1, by omega, by omega, by omega, rfl, heq2, h6⟩
              | true =>
                simp only [e6, hl, Bool.not_true, Bool.true_and, Bool.false_eq_true, if_false] at heq2
                simp only [RS, List.cons_append, List.nil_append, Option.isNone_some, Option.isNone_none, Option.isSome_some, Option.isSome_none, Nat.zero_add, Nat.add_zero, Nat.reduceAdd, List.getElem?_cons_zero, List.getElem?_cons_succ, List.length_cons, List.length_nil, List.all_cons, List.all_nil, Bool.and_self, Bool.and_true, Bool.true_and, Option.bind_some, Nat.reduceLeDiff, Nat.reduceEqDiff, Nat.le_refl, and_self, if_true, if_false, List.drop_zero, List.drop_succ_cons, List.take_zero, List.take_succ_cons, List.take_nil, List.drop_nil, true_and, and_true, decide_true, decide_false, Nat.reduceMul, Nat.zero_mul, Nat.one_mul, Nat.mul_one, Bool.not_true]
                rw [← heq2] at hR89
                exact hR89 _ _ ⟨rfl, h6⟩
            · have e5 : decide ((j : Int) < (b : Int)) = false := by simpa using hjb
              have e6 : decide (j < b) = false := by simpa using hjb
              simp only [e6, Bool.false_and, Bool.false_eq_true, if_false] at heq2
              simp only [e5, RS, List.cons_append, List.nil_append, Option.isNone_some, Option.isNone_none, Option.isSome_some, Option.isSome_none, Nat.zero_add, Nat.add_zero, Nat.reduceAdd, List.getElem?_cons_zero, List.getElem?_cons_succ, List.length_cons, List.length_nil, List.all_cons, List.all_nil, Bool.and_self, Bool.and_true, Bool.true_and, Option.bind_some, Nat.reduceLeDiff, Nat.reduceEqDiff, Nat.le_refl, and_self, if_true, if_false, List.drop_zero, List.drop_succ_cons, List.take_zero, List.take_succ_cons, List.take_nil, List.drop_nil, true_and, and_true, decide_true, decide_false, Nat.reduceMul, Nat.zero_mul, Nat.one_mul, Nat.mul_one]
              rw [← heq2] at hR89
              exact hR89 _ _ ⟨rfl, h2⟩
          · rintro t H2 ⟨j, j1, j2, hn2, -⟩; omega
    · have e : decide ((st : Int) < 5) = false := by simp; omega
      obtain rfl : st = 5 := by omega
      simp only [e, RS, List.cons_append, List.nil_append, Option.isNone_some, Option.isNone_none, Option.isSome_some, Option.isSome_none, Nat.zero_add, Nat.add_zero, Nat.reduceAdd, List.getElem?_cons_zero, List.getElem?_cons_succ, List.length_cons, List.length_nil, List.all_cons, List.all_nil, Bool.and_self, Bool.and_true, Bool.true_and, Option.bind_some, Nat.reduceLeDiff, Nat.reduceEqDiff, Nat.le_refl, and_self, if_true, if_false, List.drop_zero, List.drop_succ_cons, List.take_zero, List.take_succ_cons, List.take_nil, List.drop_nil, true_and, and_true, decide_true, decide_false, Nat.reduceMul, Nat.zero_mul, Nat.one_mul, Nat.mul_one]
      have heq' : (d1, false) = Sort.partialIns ltW a b 5 (a + 1) d := heq
      rw [← heq'] at hK
      exact hK _ h1
  · rintro t H ⟨st, i, d1, hst, hn, -⟩; omega
end Go.Proofs.Ytiolnpeniklhiaa
