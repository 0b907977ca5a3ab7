/- slices.SortFunc over words, its parts (5): the partitions.
   Conditions: what stands in memory, as each states it. -/
import Derived.Test.YtiolnpeniklhiaaSort4
namespace Go.Proofs.Ytiolnpeniklhiaa
open Go Go.Ab
set_option linter.all false
set_option maxRecDepth 100000

theorem partition_ok {m a b pv cap : Nat} {d : WA} {H : AH} {K : KV} {F : SL} (hap : a ≤ pv) (hpb : pv < b) (hb : b ≤ d.size) (hsz : d.size < 1000000) (hs : sat H (pts m (wobj d) * F))
    (hK : ∀ H', sat H' (pts m (wobj (Sort.partition ltW d a b pv).2.2) * F) → K (.tuple ⟨[.int .i64 ((Sort.partition ltW d a b pv).1 : Int), .bool (Sort.partition ltW d a b pv).2.1]⟩) H') :
    DS Try.prog Fi.slices_partitionCmpFunc_cells_Word [slc m d.size cap, .int .i64 (a : Int), .int .i64 (b : Int), .int .i64 (pv : Int), cmpF] H K := by
  refine use_slices_partitionCmpFunc_cells_Word (d.size + 2) ?_
  unfold sh_slices_partitionCmpFunc_cells_Word
  have g := (sat_get hs).1
  have i1 := ixw (m := m) (cap := cap) (show a < d.size by omega)
  have i2 := ixw (m := m) (cap := cap) (show pv < d.size by omega)
  have w0 : IntKind.i64.wrap ((b : Int) - 1) = ((b - 1 : Nat) : Int) := by rw [w64n (by omega)]; omega
  have w1 : IntKind.i64.wrap ((a : Int) + 1) = ((a + 1 : Nat) : Int) := by rw [w64n (by omega)]; omega
  simp only [RS, List.cons_append, List.nil_append, Option.isNone_some, Option.isNone_none, Option.isSome_some, Option.isSome_none, Nat.zero_add, Nat.add_zero, Nat.reduceAdd, List.getElem?_cons_zero, List.getElem?_cons_succ, List.length_cons, List.length_nil, List.all_cons, List.all_nil, Bool.and_self, Bool.and_true, Bool.true_and, Option.bind_some, Nat.reduceLeDiff, Nat.reduceEqDiff, Nat.le_refl, and_self, if_true, if_false, List.drop_zero, List.drop_succ_cons, List.take_zero, List.take_succ_cons, List.take_nil, List.drop_nil, true_and, and_true, decide_true, decide_false, Nat.reduceMul, Nat.zero_mul, Nat.one_mul, Nat.mul_one, i1, i2, g, ldw (show a < d.size by omega), ldw (show pv < d.size by omega), stw _ (show a < d.size by omega), get_put_eq, stw _ (show pv < (d.setIfInBounds a d[pv]!).size by rw [size_set]; omega), w0, w1]
  have h1 : sat _ (pts m (wobj (Sort.swp d a pv)) * F) := sat_put (wobj (Sort.swp d a pv)) (sat_put (wobj (d.setIfInBounds a d[pv]!)) hs)
  unfold Sort.partition at hK
  dsimp only at hK
  rw [show (d.setIfInBounds a d[pv]!).setIfInBounds pv d[a]! = Sort.swp d a pv from rfl]
  revert h1
  generalize hH1 : AH.put (AH.put H m _) m (wobj (Sort.swp d a pv)) = H1
  intro h1
  have hD : (Sort.swp d a pv).size = d.size := size_swp _ _ _
  revert h1 hK hD
  generalize Sort.swp d a pv = D1
  intro hK h1 hD
  refine jn_rule (fun t H => t = (slc m d.size cap, .int .i64 (a : Int), cmpF, .int .i64 ((Sort.scanUp (fun x => ltW x D1[a]!) D1 (b - 1) (a + 1) : Nat) : Int), .int .i64 ((b - 1 : Nat) : Int), ()) ∧ sat H (pts m (wobj D1) * F)) ?_ ?_
  · rintro t H2 ⟨rfl, h2⟩
    have lo1 := Sort.scanUp_ge (fun x => ltW x D1[a]!) D1 (b - 1) (a + 1)
    revert hK lo1
    generalize Sort.scanUp (fun x => ltW x D1[a]!) D1 (b - 1) (a + 1) = i
    intro hK lo1
    refine jn_rule (fun t H => t = (slc m d.size cap, .int .i64 (a : Int), cmpF, .int .i64 (i : Int), .int .i64 ((Sort.scanDown (fun x => !ltW x D1[a]!) D1 i (b - 1) : Nat) : Int), ()) ∧ sat H (pts m (wobj D1) * F)) ?_ ?_
    · rintro t H3 ⟨rfl, h3⟩
      have hi2 := Sort.scanDown_le (fun x => !ltW x D1[a]!) D1 i (b - 1)
      revert hK hi2
      generalize Sort.scanDown (fun x => !ltW x D1[a]!) D1 i (b - 1) = j
      intro hK hi2
      have g3 := (sat_get h3).1
      have ja := ixw (m := m) (cap := cap) (show a < d.size by omega)
      have jj := ixw (m := m) (cap := cap) (show j < d.size by omega)
      simp only [RS, List.cons_append, List.nil_append, Option.isNone_some, Option.isNone_none, Option.isSome_some, Option.isSome_none, Nat.zero_add, Nat.add_zero, Nat.reduceAdd, List.getElem?_cons_zero, List.getElem?_cons_succ, List.length_cons, List.length_nil, List.all_cons, List.all_nil, Bool.and_self, Bool.and_true, Bool.true_and, Option.bind_some, Nat.reduceLeDiff, Nat.reduceEqDiff, Nat.le_refl, and_self, if_true, if_false, List.drop_zero, List.drop_succ_cons, List.take_zero, List.take_succ_cons, List.take_nil, List.drop_nil, true_and, and_true, decide_true, decide_false, Nat.reduceMul, Nat.zero_mul, Nat.one_mul, Nat.mul_one]
      by_cases hij : i > j
      · have e : decide ((i : Int) > (j : Int)) = true := by simpa using hij
        simp only [if_pos hij] at hK
        simp only [e, RS, List.cons_append, List.nil_append, Option.isNone_some, Option.isNone_none, Option.isSome_some, Option.isSome_none, Nat.zero_add, Nat.add_zero, Nat.reduceAdd, List.getElem?_cons_zero, List.getElem?_cons_succ, List.length_cons, List.length_nil, List.all_cons, List.all_nil, Bool.and_self, Bool.and_true, Bool.true_and, Option.bind_some, Nat.reduceLeDiff, Nat.reduceEqDiff, Nat.le_refl, and_self, if_true, if_false, List.drop_zero, List.drop_succ_cons, List.take_zero, List.take_succ_cons, List.take_nil, List.drop_nil, true_and, and_true, decide_true, decide_false, Nat.reduceMul, Nat.zero_mul, Nat.one_mul, Nat.mul_one, ja, jj, g3, ldw (show a < D1.size by omega), ldw (show j < D1.size by omega), stw _ (show j < D1.size by omega), get_put_eq, stw _ (show a < (D1.setIfInBounds j D1[a]!).size by rw [size_set]; omega)]
        exact hK _ (sat_put _ (sat_put _ h3))
      · have e : decide ((i : Int) > (j : Int)) = false := by simpa using hij
        simp only [if_neg hij] at hK
        have ji := ixw (m := m) (cap := cap) (show i < d.size by omega)
        have w2 : IntKind.i64.wrap ((i : Int) + 1) = ((i + 1 : Nat) : Int) := by rw [w64n (by omega)]; omega
        have w3 : IntKind.i64.wrap ((j : Int) - 1) = ((j - 1 : Nat) : Int) := by rw [w64n (by omega)]; omega
        simp only [e, RS, List.cons_append, List.nil_append, Option.isNone_some, Option.isNone_none, Option.isSome_some, Option.isSome_none, Nat.zero_add, Nat.add_zero, Nat.reduceAdd, List.getElem?_cons_zero, List.getElem?_cons_succ, List.length_cons, List.length_nil, List.all_cons, List.all_nil, Bool.and_self, Bool.and_true, Bool.true_and, Option.bind_some, Nat.reduceLeDiff, Nat.reduceEqDiff, Nat.le_refl, and_self, if_true, if_false, List.drop_zero, List.drop_succ_cons, List.take_zero, List.take_succ_cons, List.take_nil, List.drop_nil, true_and, and_true, decide_true, decide_false, Nat.reduceMul, Nat.zero_mul, Nat.one_mul, Nat.mul_one, ji, jj, g3, ldw (show i < D1.size by omega), ldw (show j < D1.size by omega), stw _ (show i < D1.size by omega), get_put_eq, stw _ (show j < (D1.setIfInBounds i D1[j]!).size by rw [size_set]; omega), w2, w3]
        refine jn_rule (fun t H => ∃ (j2 : Nat) (D2 : WA), t = (slc m d.size cap, .int .i64 (a : Int), .int .i64 (j2 : Int), ()) ∧ j2 < d.size ∧ D2.size = d.size ∧ Sort.partLoop ltW a (i + 1) (j - 1) (Sort.swp D1 i j) = (j2, D2) ∧ sat H (pts m (wobj D2) * F)) ?_ ?_
        · rintro t H4 ⟨j2, D2, rfl, hj2, hD2, heq, h4⟩
          rw [heq] at hK
          have g4 := (sat_get h4).1
          have jj2 := ixw (m := m) (cap := cap) hj2
          simp only [RS, List.cons_append, List.nil_append, Option.isNone_some, Option.isNone_none, Option.isSome_some, Option.isSome_none, Nat.zero_add, Nat.add_zero, Nat.reduceAdd, List.getElem?_cons_zero, List.getElem?_cons_succ, List.length_cons, List.length_nil, List.all_cons, List.all_nil, Bool.and_self, Bool.and_true, Bool.true_and, Option.bind_some, Nat.reduceLeDiff, Nat.reduceEqDiff, Nat.le_refl, and_self, if_true, if_false, List.drop_zero, List.drop_succ_cons, List.take_zero, List.take_succ_cons, List.take_nil, List.drop_nil, true_and, and_true, decide_true, decide_false, Nat.reduceMul, Nat.zero_mul, Nat.one_mul, Nat.mul_one, ja, jj2, g4, ldw (show a < D2.size by omega), ldw (show j2 < D2.size by omega), stw _ (show j2 < D2.size by omega), get_put_eq, stw _ (show a < (D2.setIfInBounds j2 D2[a]!).size by rw [size_set]; omega)]
          exact hK _ (sat_put _ (sat_put _ h4))
        · intro R hR
          refine lp_rule (fun n t H => ∃ (i1 j1 : Nat) (D2 : WA), a < i1 ∧ i1 ≤ j1 + 2 ∧ j1 < b ∧ j1 + 2 < n + i1 ∧ D2.size = d.size ∧ t = (slc m d.size cap, .int .i64 (a : Int), cmpF, .int .i64 (i1 : Int), .int .i64 (j1 : Int), ()) ∧
            Sort.partLoop ltW a i1 j1 D2 = Sort.partLoop ltW a (i + 1) (j - 1) (Sort.swp D1 i j) ∧ sat H (pts m (wobj D2) * F)) ?_ ?_
            ⟨i + 1, j - 1, Sort.swp D1 i j, by omega, by omega, by omega, by omega, by rw [size_swp]; exact hD, rfl, rfl, sat_put _ (sat_put _ h3)⟩
          · rintro n t H5 ⟨i1, j1, D2, k1, k2, k3, hn, hD2, rfl, heq, h5⟩ R2 hR2
            rw [Sort.partLoop_eq] at heq
            rw [← heq] at hR
            simp only [RS, List.cons_append, List.nil_append, Option.isNone_some, Option.isNone_none, Option.isSome_some, Option.isSome_none, Nat.zero_add, Nat.add_zero, Nat.reduceAdd, List.getElem?_cons_zero, List.getElem?_cons_succ, List.length_cons, List.length_nil, List.all_cons, List.all_nil, Bool.and_self, Bool.and_true, Bool.true_and, Option.bind_some, Nat.reduceLeDiff, Nat.reduceEqDiff, Nat.le_refl, and_self, if_true, if_false, List.drop_zero, List.drop_succ_cons, List.take_zero, List.take_succ_cons, List.take_nil, List.drop_nil, true_and, and_true, decide_true, decide_false, Nat.reduceMul, Nat.zero_mul, Nat.one_mul, Nat.mul_one]
            refine jn_rule (fun t H => t = (slc m d.size cap, .int .i64 (a : Int), cmpF, .int .i64 ((Sort.scanUp (fun x => ltW x D2[a]!) D2 j1 i1 : Nat) : Int), .int .i64 (j1 : Int), ()) ∧ sat H (pts m (wobj D2) * F)) ?_ ?_
            · rintro t H6 ⟨rfl, h6⟩
              have lo3 := Sort.scanUp_ge (fun x => ltW x D2[a]!) D2 j1 i1
              revert hR heq lo3
              generalize Sort.scanUp (fun x => ltW x D2[a]!) D2 j1 i1 = i2
              intro hR heq lo3
              refine jn_rule (fun t H => t = (slc m d.size cap, .int .i64 (a : Int), cmpF, .int .i64 (i2 : Int), .int .i64 ((Sort.scanDown (fun x => !ltW x D2[a]!) D2 i2 j1 : Nat) : Int), ()) ∧ sat H (pts m (wobj D2) * F)) ?_ ?_
              · rintro t H7 ⟨rfl, h7⟩
                have hi4 := Sort.scanDown_le (fun x => !ltW x D2[a]!) D2 i2 j1
                revert hR heq hi4
                generalize Sort.scanDown (fun x => !ltW x D2[a]!) D2 i2 j1 = j2
                intro hR heq hi4
                simp only [RS, List.cons_append, List.nil_append, Option.isNone_some, Option.isNone_none, Option.isSome_some, Option.isSome_none, Nat.zero_add, Nat.add_zero, Nat.reduceAdd, List.getElem?_cons_zero, List.getElem?_cons_succ, List.length_cons, List.length_nil, List.all_cons, List.all_nil, Bool.and_self, Bool.and_true, Bool.true_and, Option.bind_some, Nat.reduceLeDiff, Nat.reduceEqDiff, Nat.le_refl, and_self, if_true, if_false, List.drop_zero, List.drop_succ_cons, List.take_zero, List.take_succ_cons, List.take_nil, List.drop_nil, true_and, and_true, decide_true, decide_false, Nat.reduceMul, Nat.zero_mul, Nat.one_mul, Nat.mul_one]
                by_cases h : i2 > j2
                · have e : decide ((i2 : Int) > (j2 : Int)) = true := by simpa using h
                  simp only [if_pos h] at hR
                  simp only [e, RS, List.cons_append, List.nil_append, Option.isNone_some, Option.isNone_none, Option.isSome_some, Option.isSome_none, Nat.zero_add, Nat.add_zero, Nat.reduceAdd, List.getElem?_cons_zero, List.getElem?_cons_succ, List.length_cons, List.length_nil, List.all_cons, List.all_nil, Bool.and_self, Bool.and_true, Bool.true_and, Option.bind_some, Nat.reduceLeDiff, Nat.reduceEqDiff, Nat.le_refl, and_self, if_true, if_false, List.drop_zero, List.drop_succ_cons, List.take_zero, List.take_succ_cons, List.take_nil, List.drop_nil, true_and, and_true, decide_true, decide_false, Nat.reduceMul, Nat.zero_mul, Nat.one_mul, Nat.mul_one]
                  exact hR _ _ ⟨j2, D2, rfl, by omega, hD2, rfl, h7⟩
                · have e : decide ((i2 : Int) > (j2 : Int)) = false := by simpa using h
                  simp only [if_neg h] at heq
                  have g7 := (sat_get h7).1
                  have ki := ixw (m := m) (cap := cap) (show i2 < d.size by omega)
                  have kj := ixw (m := m) (cap := cap) (show j2 < d.size by omega)
                  have w4 : IntKind.i64.wrap ((i2 : Int) + 1) = ((i2 + 1 : Nat) : Int) := by rw [w64n (by omega)]; omega
                  have w5 : IntKind.i64.wrap ((j2 : Int) - 1) = ((j2 - 1 : Nat) : Int) := by rw [w64n (by omega)]; omega
                  simp only [e, RS, List.cons_append, List.nil_append, Option.isNone_some, Option.isNone_none, Option.isSome_some, Option.isSome_none, Nat.zero_add, Nat.add_zero, Nat.reduceAdd, List.getElem?_cons_zero, List.getElem?_cons_succ, List.length_cons, List.length_nil, List.all_cons, List.all_nil, Bool.and_self, Bool.and_true, Bool.true_and, Option.bind_some, Nat.reduceLeDiff, Nat.reduceEqDiff, Nat.le_refl, and_self, if_true, if_false, List.drop_zero, List.drop_succ_cons, List.take_zero, List.take_succ_cons, List.take_nil, List.drop_nil, true_and, and_true, decide_true, decide_false, Nat.reduceMul, Nat.zero_mul, Nat.one_mul, Nat.mul_one, ki, kj, g7, ldw (show i2 < D2.size by omega), ldw (show j2 < D2.size by omega), stw _ (show i2 < D2.size by omega), get_put_eq, stw _ (show j2 < (D2.setIfInBounds i2 D2[j2]!).size by rw [size_set]; omega), w4, w5]
                  exact hR2 _ _ ⟨i2 + 1, j2 - 1, Sort.swp D2 i2 j2, by omega, by omega, by omega, by omega, by rw [size_swp]; exact hD2, rfl, heq, sat_put _ (sat_put _ h7)⟩
              · intro R3 hR3
                try simp only [RS, List.cons_append, List.nil_append, Option.isNone_some, Option.isNone_none, Option.isSome_some, Option.isSome_none, Nat.zero_add, Nat.add_zero, Nat.reduceAdd, List.getElem?_cons_zero, List.getElem?_cons_succ, List.length_cons, List.length_nil, List.all_cons, List.all_nil, Bool.and_self, Bool.and_true, Bool.true_and, Option.bind_some, Nat.reduceLeDiff, Nat.reduceEqDiff, Nat.le_refl, and_self, if_true, if_false, List.drop_zero, List.drop_succ_cons, List.take_zero, List.take_succ_cons, List.take_nil, List.drop_nil, true_and, and_true, decide_true, decide_false, Nat.reduceMul, Nat.zero_mul, Nat.one_mul, Nat.mul_one]
                rw [← hD2] at hR3 ⊢
                exact dnA_ok (E := R3) (by omega) (by omega) (by omega) (by omega) (by omega) h6 fun H7 h7 => hR3 _ _ ⟨rfl, h7⟩
            · intro R3 hR3
              try simp only [RS, List.cons_append, List.nil_append, Option.isNone_some, Option.isNone_none, Option.isSome_some, Option.isSome_none, Nat.zero_add, Nat.add_zero, Nat.reduceAdd, List.getElem?_cons_zero, List.getElem?_cons_succ, List.length_cons, List.length_nil, List.all_cons, List.all_nil, Bool.and_self, Bool.and_true, Bool.true_and, Option.bind_some, Nat.reduceLeDiff, Nat.reduceEqDiff, Nat.le_refl, and_self, if_true, if_false, List.drop_zero, List.drop_succ_cons, List.take_zero, List.take_succ_cons, List.take_nil, List.drop_nil, true_and, and_true, decide_true, decide_false, Nat.reduceMul, Nat.zero_mul, Nat.one_mul, Nat.mul_one]
              rw [← hD2] at hR3 ⊢
              exact upA_ok (E := R3) (by omega) (by omega) (by omega) (by omega) (by omega) h5 fun H6 h6 => hR3 _ _ ⟨rfl, h6⟩
          · rintro t H5 ⟨i1, j1, D2, k1, k2, k3, hn, -⟩; omega
    · intro R hR
      try simp only [RS, List.cons_append, List.nil_append, Option.isNone_some, Option.isNone_none, Option.isSome_some, Option.isSome_none, Nat.zero_add, Nat.add_zero, Nat.reduceAdd, List.getElem?_cons_zero, List.getElem?_cons_succ, List.length_cons, List.length_nil, List.all_cons, List.all_nil, Bool.and_self, Bool.and_true, Bool.true_and, Option.bind_some, Nat.reduceLeDiff, Nat.reduceEqDiff, Nat.le_refl, and_self, if_true, if_false, List.drop_zero, List.drop_succ_cons, List.take_zero, List.take_succ_cons, List.take_nil, List.drop_nil, true_and, and_true, decide_true, decide_false, Nat.reduceMul, Nat.zero_mul, Nat.one_mul, Nat.mul_one]
      rw [← hD] at hR ⊢
      exact dnA_ok (E := R) (by omega) (by omega) (by omega) (by omega) (by omega) h2 fun H3 h3 => hR _ _ ⟨rfl, h3⟩
  · intro R hR
    try simp only [RS, List.cons_append, List.nil_append, Option.isNone_some, Option.isNone_none, Option.isSome_some, Option.isSome_none, Nat.zero_add, Nat.add_zero, Nat.reduceAdd, List.getElem?_cons_zero, List.getElem?_cons_succ, List.length_cons, List.length_nil, List.all_cons, List.all_nil, Bool.and_self, Bool.and_true, Bool.true_and, Option.bind_some, Nat.reduceLeDiff, Nat.reduceEqDiff, Nat.le_refl, and_self, if_true, if_false, List.drop_zero, List.drop_succ_cons, List.take_zero, List.take_succ_cons, List.take_nil, List.drop_nil, true_and, and_true, decide_true, decide_false, Nat.reduceMul, Nat.zero_mul, Nat.one_mul, Nat.mul_one]
    rw [← hD] at hR ⊢
    exact upA_ok (E := R) (by omega) (by omega) (by omega) (by omega) (by omega) h1 fun H2 h2 => hR _ _ ⟨rfl, h2⟩
theorem partEqual_ok {m a b pv cap : Nat} {d : WA} {H : AH} {K : KV} {F : SL} (hap : a ≤ pv) (hpb : pv < b) (hb : b ≤ d.size) (hsz : d.size < 1000000) (hs : sat H (pts m (wobj d) * F))
    (hK : ∀ H', sat H' (pts m (wobj (Sort.partitionEqual ltW d a b pv).2) * F) → K (.int .i64 ((Sort.partitionEqual ltW d a b pv).1 : Int)) H') :
    DS Try.prog Fi.slices_partitionEqualCmpFunc_cells_Word [slc m d.size cap, .int .i64 (a : Int), .int .i64 (b : Int), .int .i64 (pv : Int), cmpF] H K := by
  refine use_slices_partitionEqualCmpFunc_cells_Word (d.size + 2) ?_
  unfold sh_slices_partitionEqualCmpFunc_cells_Word
  have g := (sat_get hs).1
  have i1 := ixw (m := m) (cap := cap) (show a < d.size by omega)
  have i2 := ixw (m := m) (cap := cap) (show pv < d.size by omega)
  have w0 : IntKind.i64.wrap ((b : Int) - 1) = ((b - 1 : Nat) : Int) := by rw [w64n (by omega)]; omega
  have w1 : IntKind.i64.wrap ((a : Int) + 1) = ((a + 1 : Nat) : Int) := by rw [w64n (by omega)]; omega
  simp only [RS, List.cons_append, List.nil_append, Option.isNone_some, Option.isNone_none, Option.isSome_some, Option.isSome_none, Nat.zero_add, Nat.add_zero, Nat.reduceAdd, List.getElem?_cons_zero, List.getElem?_cons_succ, List.length_cons, List.length_nil, List.all_cons, List.all_nil, Bool.and_self, Bool.and_true, Bool.true_and, Option.bind_some, Nat.reduceLeDiff, Nat.reduceEqDiff, Nat.le_refl, and_self, if_true, if_false, List.drop_zero, List.drop_succ_cons, List.take_zero, List.take_succ_cons, List.take_nil, List.drop_nil, true_and, and_true, decide_true, decide_false, Nat.reduceMul, Nat.zero_mul, Nat.one_mul, Nat.mul_one, i1, i2, g, ldw (show a < d.size by omega), ldw (show pv < d.size by omega), stw _ (show a < d.size by omega), get_put_eq, stw _ (show pv < (d.setIfInBounds a d[pv]!).size by rw [size_set]; omega), w0, w1]
  have h1 : sat _ (pts m (wobj (Sort.swp d a pv)) * F) := sat_put (wobj (Sort.swp d a pv)) (sat_put (wobj (d.setIfInBounds a d[pv]!)) hs)
  unfold Sort.partitionEqual at hK
  rw [show (d.setIfInBounds a d[pv]!).setIfInBounds pv d[a]! = Sort.swp d a pv from rfl]
  revert h1
  generalize hH1 : AH.put (AH.put H m _) m (wobj (Sort.swp d a pv)) = H1
  intro h1
  have hD : (Sort.swp d a pv).size = d.size := size_swp _ _ _
  revert h1 hK hD
  generalize Sort.swp d a pv = D1
  intro hK h1 hD
  refine lp_rule (fun n t H => ∃ (i1 j1 : Nat) (D2 : WA), a < i1 ∧ i1 ≤ j1 + 2 ∧ j1 < b ∧ j1 + 2 < n + i1 ∧ D2.size = d.size ∧ t = (slc m d.size cap, .int .i64 (a : Int), cmpF, .int .i64 (i1 : Int), .int .i64 (j1 : Int), ()) ∧
    Sort.partEqLoop ltW a i1 j1 D2 = Sort.partEqLoop ltW a (a + 1) (b - 1) D1 ∧ sat H (pts m (wobj D2) * F)) ?_ ?_
    ⟨a + 1, b - 1, D1, by omega, by omega, by omega, by omega, hD, rfl, rfl, h1⟩
  · rintro n t H5 ⟨i1, j1, D2, k1, k2, k3, hn, hD2, rfl, heq, h5⟩ R2 hR2
    rw [Sort.partEqLoop_eq] at heq
    rw [← heq] at hK
    try simp only [RS, List.cons_append, List.nil_append, Option.isNone_some, Option.isNone_none, Option.isSome_some, Option.isSome_none, Nat.zero_add, Nat.add_zero, Nat.reduceAdd, List.getElem?_cons_zero, List.getElem?_cons_succ, List.length_cons, List.length_nil, List.all_cons, List.all_nil, Bool.and_self, Bool.and_true, Bool.true_and, Option.bind_some, Nat.reduceLeDiff, Nat.reduceEqDiff, Nat.le_refl, and_self, if_true, if_false, List.drop_zero, List.drop_succ_cons, List.take_zero, List.take_succ_cons, List.take_nil, List.drop_nil, true_and, and_true, decide_true, decide_false, Nat.reduceMul, Nat.zero_mul, Nat.one_mul, Nat.mul_one]
    refine jn_rule (fun t H => t = (slc m d.size cap, .int .i64 (a : Int), cmpF, .int .i64 ((Sort.scanUp (fun x => !ltW D2[a]! x) D2 j1 i1 : Nat) : Int), .int .i64 (j1 : Int), ()) ∧ sat H (pts m (wobj D2) * F)) ?_ ?_
    · rintro t H6 ⟨rfl, h6⟩
      have lo3 := Sort.scanUp_ge (fun x => !ltW D2[a]! x) D2 j1 i1
      revert hK heq lo3
      generalize Sort.scanUp (fun x => !ltW D2[a]! x) D2 j1 i1 = i2
      intro hK heq lo3
      refine jn_rule (fun t H => t = (slc m d.size cap, .int .i64 (a : Int), cmpF, .int .i64 (i2 : Int), .int .i64 ((Sort.scanDown (fun x => ltW D2[a]! x) D2 i2 j1 : Nat) : Int), ()) ∧ sat H (pts m (wobj D2) * F)) ?_ ?_
      · rintro t H7 ⟨rfl, h7⟩
        have hi4 := Sort.scanDown_le (fun x => ltW D2[a]! x) D2 i2 j1
        revert hK heq hi4
        generalize Sort.scanDown (fun x => ltW D2[a]! x) D2 i2 j1 = j2
        intro hK heq hi4
        simp only [RS, List.cons_append, List.nil_append, Option.isNone_some, Option.isNone_none, Option.isSome_some, Option.isSome_none, Nat.zero_add, Nat.add_zero, Nat.reduceAdd, List.getElem?_cons_zero, List.getElem?_cons_succ, List.length_cons, List.length_nil, List.all_cons, List.all_nil, Bool.and_self, Bool.and_true, Bool.true_and, Option.bind_some, Nat.reduceLeDiff, Nat.reduceEqDiff, Nat.le_refl, and_self, if_true, if_false, List.drop_zero, List.drop_succ_cons, List.take_zero, List.take_succ_cons, List.take_nil, List.drop_nil, true_and, and_true, decide_true, decide_false, Nat.reduceMul, Nat.zero_mul, Nat.one_mul, Nat.mul_one]
        by_cases h : i2 > j2
        · have e : decide ((i2 : Int) > (j2 : Int)) = true := by simpa using h
          simp only [if_pos h] at hK
          simp only [e, RS, List.cons_append, List.nil_append, Option.isNone_some, Option.isNone_none, Option.isSome_some, Option.isSome_none, Nat.zero_add, Nat.add_zero, Nat.reduceAdd, List.getElem?_cons_zero, List.getElem?_cons_succ, List.length_cons, List.length_nil, List.all_cons, List.all_nil, Bool.and_self, Bool.and_true, Bool.true_and, Option.bind_some, Nat.reduceLeDiff, Nat.reduceEqDiff, Nat.le_refl, and_self, if_true, if_false, List.drop_zero, List.drop_succ_cons, List.take_zero, List.take_succ_cons, List.take_nil, List.drop_nil, true_and, and_true, decide_true, decide_false, Nat.reduceMul, Nat.zero_mul, Nat.one_mul, Nat.mul_one]
          exact hK _ h7
        · have e : decide ((i2 : Int) > (j2 : Int)) = false := by simpa using h
          simp only [if_neg h] at heq
          have g7 := (sat_get h7).1
          have ki := ixw (m := m) (cap := cap) (show i2 < d.size by omega)
          have kj := ixw (m := m) (cap := cap) (show j2 < d.size by omega)
          have w4 : IntKind.i64.wrap ((i2 : Int) + 1) = ((i2 + 1 : Nat) : Int) := by rw [w64n (by omega)]; omega
          have w5 : IntKind.i64.wrap ((j2 : Int) - 1) = ((j2 - 1 : Nat) : Int) := by rw [w64n (by omega)]; omega
          simp only [e, RS, List.cons_append, List.nil_append, Option.isNone_some, Option.isNone_none, Option.isSome_some, Option.isSome_none, Nat.zero_add, Nat.add_zero, Nat.reduceAdd, List.getElem?_cons_zero, List.getElem?_cons_succ, List.length_cons, List.length_nil, List.all_cons, List.all_nil, Bool.and_self, Bool.and_true, Bool.true_and, Option.bind_some, Nat.reduceLeDiff, Nat.reduceEqDiff, Nat.le_refl, and_self, if_true, if_false, List.drop_zero, List.drop_succ_cons, List.take_zero, List.take_succ_cons, List.take_nil, List.drop_nil, true_and, and_true, decide_true, decide_false, Nat.reduceMul, Nat.zero_mul, Nat.one_mul, Nat.mul_one, ki, kj, g7, ldw (show i2 < D2.size by omega), ldw (show j2 < D2.size by omega), stw _ (show i2 < D2.size by omega), get_put_eq, stw _ (show j2 < (D2.setIfInBounds i2 D2[j2]!).size by rw [size_set]; omega), w4, w5]
          exact hR2 _ _ ⟨i2 + 1, j2 - 1, Sort.swp D2 i2 j2, by omega, by omega, by omega, by omega, by rw [size_swp]; exact hD2, rfl, heq, sat_put _ (sat_put _ h7)⟩
      · intro R3 hR3
        try simp only [RS, List.cons_append, List.nil_append, Option.isNone_some, Option.isNone_none, Option.isSome_some, Option.isSome_none, Nat.zero_add, Nat.add_zero, Nat.reduceAdd, List.getElem?_cons_zero, List.getElem?_cons_succ, List.length_cons, List.length_nil, List.all_cons, List.all_nil, Bool.and_self, Bool.and_true, Bool.true_and, Option.bind_some, Nat.reduceLeDiff, Nat.reduceEqDiff, Nat.le_refl, and_self, if_true, if_false, List.drop_zero, List.drop_succ_cons, List.take_zero, List.take_succ_cons, List.take_nil, List.drop_nil, true_and, and_true, decide_true, decide_false, Nat.reduceMul, Nat.zero_mul, Nat.one_mul, Nat.mul_one]
        rw [← hD2] at hR3 ⊢
        exact dnE_ok (E := R3) (by omega) (by omega) (by omega) (by omega) (by omega) h6 fun H7 h7 => hR3 _ _ ⟨rfl, h7⟩
    · intro R3 hR3
      try simp only [RS, List.cons_append, List.nil_append, Option.isNone_some, Option.isNone_none, Option.isSome_some, Option.isSome_none, Nat.zero_add, Nat.add_zero, Nat.reduceAdd, List.getElem?_cons_zero, List.getElem?_cons_succ, List.length_cons, List.length_nil, List.all_cons, List.all_nil, Bool.and_self, Bool.and_true, Bool.true_and, Option.bind_some, Nat.reduceLeDiff, Nat.reduceEqDiff, Nat.le_refl, and_self, if_true, if_false, List.drop_zero, List.drop_succ_cons, List.take_zero, List.take_succ_cons, List.take_nil, List.drop_nil, true_and, and_true, decide_true, decide_false, Nat.reduceMul, Nat.zero_mul, Nat.one_mul, Nat.mul_one]
      rw [← hD2] at hR3 ⊢
      exact upE_ok (E := R3) (by omega) (by omega) (by omega) (by omega) (by omega) h5 fun H6 h6 => hR3 _ _ ⟨rfl, h6⟩
  · rintro t H5 ⟨i1, j1, D2, k1, k2, k3, hn, -⟩; omega
end Go.Proofs.Ytiolnpeniklhiaa
