/- slices.SortFunc over words, its parts (4): the scans of the two partitions (forms printed by mksort4.py).
   Conditions: what stands in memory, as each states it. -/
import Derived.Test.YtiolnpeniklhiaaSort3
namespace Go.Proofs.Ytiolnpeniklhiaa
open Go Go.Ab
set_option linter.all false
set_option maxRecDepth 100000

abbrev T5 := Value × Value × Value × Value × Value × Unit
def dnA (D : Dl) (N : Nat) (E : T5 → AH → Prop) (s : T5) (H : AH) : Prop := lp (fun (s77 : Value × Value × Value × Value × Value × Unit) H78 R79 => jn (fun (s80 : Value × Value × Value × Value × Value × Unit) H81 => bn (binT BinOp.sub none false (Prod.fst (Prod.snd (Prod.snd (Prod.snd (Prod.snd s80))))) (.int .i64 1)) fun v82 => R79 (Prod.fst s80, Prod.fst (Prod.snd s80), Prod.fst (Prod.snd (Prod.snd s80)), Prod.fst (Prod.snd (Prod.snd (Prod.snd s80))), v82, ()) H81) fun R83 => bn (binT BinOp.leq none false (Prod.fst (Prod.snd (Prod.snd (Prod.snd s77)))) (Prod.fst (Prod.snd (Prod.snd (Prod.snd (Prod.snd s77)))))) fun v84 => gdD v84 true (bn (ixS 2 (Prod.fst s77) (Prod.fst (Prod.snd (Prod.snd (Prod.snd (Prod.snd s77)))))) fun v85 => bn (ldN 2 v85 H78) fun v86 => bn (ixS 2 (Prod.fst s77) (Prod.fst (Prod.snd s77))) fun v87 => bn (ldN 2 v87 H78) fun v88 => callV D (Prod.fst (Prod.snd (Prod.snd s77))) [v86, v88] H78 fun v89 H90 => bn (binT BinOp.lss none false v89 (.int .i64 0)) fun v91 => bn (unS UnOp.not v91) fun v92 => cnd v92 (R83 (Prod.fst s77, Prod.fst (Prod.snd s77), Prod.fst (Prod.snd (Prod.snd s77)), Prod.fst (Prod.snd (Prod.snd (Prod.snd s77))), Prod.fst (Prod.snd (Prod.snd (Prod.snd (Prod.snd s77)))), ()) H90) (E (Prod.fst s77, Prod.fst (Prod.snd s77), Prod.fst (Prod.snd (Prod.snd s77)), Prod.fst (Prod.snd (Prod.snd (Prod.snd s77))), Prod.fst (Prod.snd (Prod.snd (Prod.snd (Prod.snd s77)))), ()) H90)) (cnd (.bool false) (R83 (Prod.fst s77, Prod.fst (Prod.snd s77), Prod.fst (Prod.snd (Prod.snd s77)), Prod.fst (Prod.snd (Prod.snd (Prod.snd s77))), Prod.fst (Prod.snd (Prod.snd (Prod.snd (Prod.snd s77)))), ()) H78) (E (Prod.fst s77, Prod.fst (Prod.snd s77), Prod.fst (Prod.snd (Prod.snd s77)), Prod.fst (Prod.snd (Prod.snd (Prod.snd s77))), Prod.fst (Prod.snd (Prod.snd (Prod.snd (Prod.snd s77)))), ()) H78))) N s H
theorem dnA_ok {N m a i j cap : Nat} {d : WA} {H : AH} {E : T5 → AH → Prop} {F : SL} (hN : d.size + 2 ≤ N) (ha : a < d.size) (hi : 1 ≤ i) (hj : j < d.size) (hsz : d.size < 1000000) (hs : sat H (pts m (wobj d) * F))
    (hE : ∀ H', sat H' (pts m (wobj d) * F) → E (slc m d.size cap, .int .i64 (a : Int), cmpF, .int .i64 (i : Int), .int .i64 ((Sort.scanDown (fun x => !ltW x d[a]!) d i j : Nat) : Int), ()) H') :
    dnA (DS Try.prog) N E (slc m d.size cap, .int .i64 (a : Int), cmpF, .int .i64 (i : Int), .int .i64 (j : Int), ()) H := by
  unfold dnA
  refine lp_rule (fun n t H => ∃ j' : Nat, j' < d.size ∧ j' < n ∧ t = (slc m d.size cap, .int .i64 (a : Int), cmpF, .int .i64 (i : Int), .int .i64 (j' : Int), ()) ∧
    Sort.scanDown (fun x => !ltW x d[a]!) d i j' = Sort.scanDown (fun x => !ltW x d[a]!) d i j ∧ sat H (pts m (wobj d) * F)) ?_ ?_ ⟨j, hj, by omega, rfl, rfl, hs⟩
  · rintro n t H ⟨j', hj', hn, rfl, heq, h1⟩ R hR
    simp only [RS, List.cons_append, List.nil_append, Option.isNone_some, Option.isNone_none, Option.isSome_some, Option.isSome_none, Nat.zero_add, Nat.add_zero, Nat.reduceAdd, List.getElem?_cons_zero, List.getElem?_cons_succ, List.length_cons, List.length_nil, List.all_cons, List.all_nil, Bool.and_self, Bool.and_true, Bool.true_and, Option.bind_some, Nat.reduceLeDiff, Nat.reduceEqDiff, Nat.le_refl, and_self, if_true, if_false, List.drop_zero, List.drop_succ_cons, List.take_zero, List.take_succ_cons, List.take_nil, List.drop_nil, true_and, and_true, decide_true, decide_false, Nat.reduceMul, Nat.zero_mul, Nat.one_mul, Nat.mul_one]
    by_cases hij : i ≤ j'
    · have e : decide ((i : Int) ≤ (j' : Int)) = true := by simpa using hij
      obtain ⟨j'', rfl⟩ : ∃ j'', j' = j'' + 1 := ⟨j' - 1, by omega⟩
      have w1 : IntKind.i64.wrap (((j'' + 1 : Nat) : Int) - 1) = (j'' : Int) := by rw [w64n (by omega)]; omega
      rw [Sort.scanDown] at heq
      have e' : decide (i ≤ j'' + 1) = true := by simpa using hij
      have g := (sat_get h1).1
      have i1 := ixw (m := m) (cap := cap) (show j'' + 1 < d.size by omega)
      have i2 := ixw (m := m) (cap := cap) ha
      simp only [e, RS, List.cons_append, List.nil_append, Option.isNone_some, Option.isNone_none, Option.isSome_some, Option.isSome_none, Nat.zero_add, Nat.add_zero, Nat.reduceAdd, List.getElem?_cons_zero, List.getElem?_cons_succ, List.length_cons, List.length_nil, List.all_cons, List.all_nil, Bool.and_self, Bool.and_true, Bool.true_and, Option.bind_some, Nat.reduceLeDiff, Nat.reduceEqDiff, Nat.le_refl, and_self, if_true, if_false, List.drop_zero, List.drop_succ_cons, List.take_zero, List.take_succ_cons, List.take_nil, List.drop_nil, true_and, and_true, decide_true, decide_false, Nat.reduceMul, Nat.zero_mul, Nat.one_mul, Nat.mul_one, i1, i2, g, ldw (show j'' + 1 < d.size by omega), ldw ha]
      refine cmp_ok h1 fun H2 h2 => ?_
      simp only [RS, List.cons_append, List.nil_append, Option.isNone_some, Option.isNone_none, Option.isSome_some, Option.isSome_none, Nat.zero_add, Nat.add_zero, Nat.reduceAdd, List.getElem?_cons_zero, List.getElem?_cons_succ, List.length_cons, List.length_nil, List.all_cons, List.all_nil, Bool.and_self, Bool.and_true, Bool.true_and, Option.bind_some, Nat.reduceLeDiff, Nat.reduceEqDiff, Nat.le_refl, and_self, if_true, if_false, List.drop_zero, List.drop_succ_cons, List.take_zero, List.take_succ_cons, List.take_nil, List.drop_nil, true_and, and_true, decide_true, decide_false, Nat.reduceMul, Nat.zero_mul, Nat.one_mul, Nat.mul_one, cmpI_lt]
      cases hl : ltW d[j'' + 1]! d[a]! with
      | true =>
        simp only [e', hl, Bool.true_and, Bool.not_true, Bool.false_eq_true, if_true, if_false] at heq
        simp only [RS, List.cons_append, List.nil_append, Option.isNone_some, Option.isNone_none, Option.isSome_some, Option.isSome_none, Nat.zero_add, Nat.add_zero, Nat.reduceAdd, List.getElem?_cons_zero, List.getElem?_cons_succ, List.length_cons, List.length_nil, List.all_cons, List.all_nil, Bool.and_self, Bool.and_true, Bool.true_and, Option.bind_some, Nat.reduceLeDiff, Nat.reduceEqDiff, Nat.le_refl, and_self, if_true, if_false, List.drop_zero, List.drop_succ_cons, List.take_zero, List.take_succ_cons, List.take_nil, List.drop_nil, true_and, and_true, decide_true, decide_false, Nat.reduceMul, Nat.zero_mul, Nat.one_mul, Nat.mul_one, Bool.not_true]
        rw [← heq] at hE
        exact hE _ h2
      | false =>
        simp only [e', hl, Bool.true_and, Bool.not_false, Bool.false_eq_true, if_true, if_false] at heq
        simp only [RS, List.cons_append, List.nil_append, Option.isNone_some, Option.isNone_none, Option.isSome_some, Option.isSome_none, Nat.zero_add, Nat.add_zero, Nat.reduceAdd, List.getElem?_cons_zero, List.getElem?_cons_succ, List.length_cons, List.length_nil, List.all_cons, List.all_nil, Bool.and_self, Bool.and_true, Bool.true_and, Option.bind_some, Nat.reduceLeDiff, Nat.reduceEqDiff, Nat.le_refl, and_self, if_true, if_false, List.drop_zero, List.drop_succ_cons, List.take_zero, List.take_succ_cons, List.take_nil, List.drop_nil, true_and, and_true, decide_true, decide_false, Nat.reduceMul, Nat.zero_mul, Nat.one_mul, Nat.mul_one, Bool.not_false]
        simp only [w1]
        exact hR _ _ ⟨j'', by omega, by omega, rfl, heq, h2⟩
    · have e : decide ((i : Int) ≤ (j' : Int)) = false := by simpa using hij
      have heq2 : Sort.scanDown (fun x => !ltW x d[a]!) d i j' = j' := by
        cases j' with
        | zero => rfl
        | succ j'' =>
          rw [Sort.scanDown]
          have e' : decide (i ≤ j'' + 1) = false := by simpa using hij
          simp only [e', Bool.false_and, Bool.false_eq_true, if_false]
      simp only [e, RS, List.cons_append, List.nil_append, Option.isNone_some, Option.isNone_none, Option.isSome_some, Option.isSome_none, Nat.zero_add, Nat.add_zero, Nat.reduceAdd, List.getElem?_cons_zero, List.getElem?_cons_succ, List.length_cons, List.length_nil, List.all_cons, List.all_nil, Bool.and_self, Bool.and_true, Bool.true_and, Option.bind_some, Nat.reduceLeDiff, Nat.reduceEqDiff, Nat.le_refl, and_self, if_true, if_false, List.drop_zero, List.drop_succ_cons, List.take_zero, List.take_succ_cons, List.take_nil, List.drop_nil, true_and, and_true, decide_true, decide_false, Nat.reduceMul, Nat.zero_mul, Nat.one_mul, Nat.mul_one]
      rw [← heq, heq2] at hE
      exact hE _ h1
  · rintro t H ⟨j', hj', hn, -⟩; omega
def upA (D : Dl) (N : Nat) (E : T5 → AH → Prop) (s : T5) (H : AH) : Prop := lp (fun (s94 : Value × Value × Value × Value × Value × Unit) H95 R96 => jn (fun (s97 : Value × Value × Value × Value × Value × Unit) H98 => bn (binT BinOp.add none false (Prod.fst (Prod.snd (Prod.snd (Prod.snd s97)))) (.int .i64 1)) fun v99 => R96 (Prod.fst s97, Prod.fst (Prod.snd s97), Prod.fst (Prod.snd (Prod.snd s97)), v99, Prod.fst (Prod.snd (Prod.snd (Prod.snd (Prod.snd s97)))), ()) H98) fun R100 => bn (binT BinOp.leq none false (Prod.fst (Prod.snd (Prod.snd (Prod.snd s94)))) (Prod.fst (Prod.snd (Prod.snd (Prod.snd (Prod.snd s94)))))) fun v101 => gdD v101 true (bn (ixS 2 (Prod.fst s94) (Prod.fst (Prod.snd (Prod.snd (Prod.snd s94))))) fun v102 => bn (ldN 2 v102 H95) fun v103 => bn (ixS 2 (Prod.fst s94) (Prod.fst (Prod.snd s94))) fun v104 => bn (ldN 2 v104 H95) fun v105 => callV D (Prod.fst (Prod.snd (Prod.snd s94))) [v103, v105] H95 fun v106 H107 => bn (binT BinOp.lss none false v106 (.int .i64 0)) fun v108 => cnd v108 (R100 (Prod.fst s94, Prod.fst (Prod.snd s94), Prod.fst (Prod.snd (Prod.snd s94)), Prod.fst (Prod.snd (Prod.snd (Prod.snd s94))), Prod.fst (Prod.snd (Prod.snd (Prod.snd (Prod.snd s94)))), ()) H107) (E (Prod.fst s94, Prod.fst (Prod.snd s94), Prod.fst (Prod.snd (Prod.snd s94)), Prod.fst (Prod.snd (Prod.snd (Prod.snd s94))), Prod.fst (Prod.snd (Prod.snd (Prod.snd (Prod.snd s94)))), ()) H107)) (cnd (.bool false) (R100 (Prod.fst s94, Prod.fst (Prod.snd s94), Prod.fst (Prod.snd (Prod.snd s94)), Prod.fst (Prod.snd (Prod.snd (Prod.snd s94))), Prod.fst (Prod.snd (Prod.snd (Prod.snd (Prod.snd s94)))), ()) H95) (E (Prod.fst s94, Prod.fst (Prod.snd s94), Prod.fst (Prod.snd (Prod.snd s94)), Prod.fst (Prod.snd (Prod.snd (Prod.snd s94))), Prod.fst (Prod.snd (Prod.snd (Prod.snd (Prod.snd s94)))), ()) H95))) N s H
theorem upA_ok {N m a i j cap : Nat} {d : WA} {H : AH} {E : T5 → AH → Prop} {F : SL} (hN : d.size + 2 ≤ N) (ha : a < d.size) (hi : i ≤ d.size + 1) (hj : j < d.size) (hsz : d.size < 1000000) (hs : sat H (pts m (wobj d) * F))
    (hE : ∀ H', sat H' (pts m (wobj d) * F) → E (slc m d.size cap, .int .i64 (a : Int), cmpF, .int .i64 ((Sort.scanUp (fun x => ltW x d[a]!) d j i : Nat) : Int), .int .i64 (j : Int), ()) H') :
    upA (DS Try.prog) N E (slc m d.size cap, .int .i64 (a : Int), cmpF, .int .i64 (i : Int), .int .i64 (j : Int), ()) H := by
  unfold upA
  refine lp_rule (fun n t H => ∃ i' : Nat, i' ≤ d.size + 1 ∧ d.size + 1 < n + i' ∧ t = (slc m d.size cap, .int .i64 (a : Int), cmpF, .int .i64 (i' : Int), .int .i64 (j : Int), ()) ∧
    Sort.scanUp (fun x => ltW x d[a]!) d j i' = Sort.scanUp (fun x => ltW x d[a]!) d j i ∧ sat H (pts m (wobj d) * F)) ?_ ?_ ⟨i, hi, by omega, rfl, rfl, hs⟩
  · rintro n t H ⟨i', hi', hn, rfl, heq, h1⟩ R hR
    have w1 : IntKind.i64.wrap ((i' : Int) + 1) = ((i' + 1 : Nat) : Int) := by rw [w64n (by omega)]; omega
    simp only [RS, List.cons_append, List.nil_append, Option.isNone_some, Option.isNone_none, Option.isSome_some, Option.isSome_none, Nat.zero_add, Nat.add_zero, Nat.reduceAdd, List.getElem?_cons_zero, List.getElem?_cons_succ, List.length_cons, List.length_nil, List.all_cons, List.all_nil, Bool.and_self, Bool.and_true, Bool.true_and, Option.bind_some, Nat.reduceLeDiff, Nat.reduceEqDiff, Nat.le_refl, and_self, if_true, if_false, List.drop_zero, List.drop_succ_cons, List.take_zero, List.take_succ_cons, List.take_nil, List.drop_nil, true_and, and_true, decide_true, decide_false, Nat.reduceMul, Nat.zero_mul, Nat.one_mul, Nat.mul_one, w1]
    rw [Sort.scanUp] at heq
    by_cases hij : i' ≤ j
    · have e : decide ((i' : Int) ≤ (j : Int)) = true := by simpa using hij
      have e' : decide (i' ≤ j) = true := by simpa using hij
      have g := (sat_get h1).1
      have i1 := ixw (m := m) (cap := cap) (show i' < d.size by omega)
      have i2 := ixw (m := m) (cap := cap) ha
      simp only [e, RS, List.cons_append, List.nil_append, Option.isNone_some, Option.isNone_none, Option.isSome_some, Option.isSome_none, Nat.zero_add, Nat.add_zero, Nat.reduceAdd, List.getElem?_cons_zero, List.getElem?_cons_succ, List.length_cons, List.length_nil, List.all_cons, List.all_nil, Bool.and_self, Bool.and_true, Bool.true_and, Option.bind_some, Nat.reduceLeDiff, Nat.reduceEqDiff, Nat.le_refl, and_self, if_true, if_false, List.drop_zero, List.drop_succ_cons, List.take_zero, List.take_succ_cons, List.take_nil, List.drop_nil, true_and, and_true, decide_true, decide_false, Nat.reduceMul, Nat.zero_mul, Nat.one_mul, Nat.mul_one, i1, i2, g, ldw (show i' < d.size by omega), ldw ha]
      refine cmp_ok h1 fun H2 h2 => ?_
      simp only [RS, List.cons_append, List.nil_append, Option.isNone_some, Option.isNone_none, Option.isSome_some, Option.isSome_none, Nat.zero_add, Nat.add_zero, Nat.reduceAdd, List.getElem?_cons_zero, List.getElem?_cons_succ, List.length_cons, List.length_nil, List.all_cons, List.all_nil, Bool.and_self, Bool.and_true, Bool.true_and, Option.bind_some, Nat.reduceLeDiff, Nat.reduceEqDiff, Nat.le_refl, and_self, if_true, if_false, List.drop_zero, List.drop_succ_cons, List.take_zero, List.take_succ_cons, List.take_nil, List.drop_nil, true_and, and_true, decide_true, decide_false, Nat.reduceMul, Nat.zero_mul, Nat.one_mul, Nat.mul_one, cmpI_lt]
      cases hl : ltW d[i']! d[a]! with
      | true =>
        simp only [e', hl, Bool.true_and, Bool.not_true, Bool.false_eq_true, if_true, if_false] at heq
        simp only [RS, List.cons_append, List.nil_append, Option.isNone_some, Option.isNone_none, Option.isSome_some, Option.isSome_none, Nat.zero_add, Nat.add_zero, Nat.reduceAdd, List.getElem?_cons_zero, List.getElem?_cons_succ, List.length_cons, List.length_nil, List.all_cons, List.all_nil, Bool.and_self, Bool.and_true, Bool.true_and, Option.bind_some, Nat.reduceLeDiff, Nat.reduceEqDiff, Nat.le_refl, and_self, if_true, if_false, List.drop_zero, List.drop_succ_cons, List.take_zero, List.take_succ_cons, List.take_nil, List.drop_nil, true_and, and_true, decide_true, decide_false, Nat.reduceMul, Nat.zero_mul, Nat.one_mul, Nat.mul_one, Bool.not_true]
        simp only [w1]
        exact hR _ _ ⟨i' + 1, by omega, by omega, rfl, heq, h2⟩
      | false =>
        simp only [e', hl, Bool.true_and, Bool.not_false, Bool.false_eq_true, if_true, if_false] at heq
        simp only [RS, List.cons_append, List.nil_append, Option.isNone_some, Option.isNone_none, Option.isSome_some, Option.isSome_none, Nat.zero_add, Nat.add_zero, Nat.reduceAdd, List.getElem?_cons_zero, List.getElem?_cons_succ, List.length_cons, List.length_nil, List.all_cons, List.all_nil, Bool.and_self, Bool.and_true, Bool.true_and, Option.bind_some, Nat.reduceLeDiff, Nat.reduceEqDiff, Nat.le_refl, and_self, if_true, if_false, List.drop_zero, List.drop_succ_cons, List.take_zero, List.take_succ_cons, List.take_nil, List.drop_nil, true_and, and_true, decide_true, decide_false, Nat.reduceMul, Nat.zero_mul, Nat.one_mul, Nat.mul_one, Bool.not_false]
        rw [← heq] at hE
        exact hE _ h2
    · have e : decide ((i' : Int) ≤ (j : Int)) = false := by simpa using hij
      have e' : decide (i' ≤ j) = false := by simpa using hij
      simp only [e', Bool.false_and, Bool.false_eq_true, if_false] at heq
      simp only [e, RS, List.cons_append, List.nil_append, Option.isNone_some, Option.isNone_none, Option.isSome_some, Option.isSome_none, Nat.zero_add, Nat.add_zero, Nat.reduceAdd, List.getElem?_cons_zero, List.getElem?_cons_succ, List.length_cons, List.length_nil, List.all_cons, List.all_nil, Bool.and_self, Bool.and_true, Bool.true_and, Option.bind_some, Nat.reduceLeDiff, Nat.reduceEqDiff, Nat.le_refl, and_self, if_true, if_false, List.drop_zero, List.drop_succ_cons, List.take_zero, List.take_succ_cons, List.take_nil, List.drop_nil, true_and, and_true, decide_true, decide_false, Nat.reduceMul, Nat.zero_mul, Nat.one_mul, Nat.mul_one]
      rw [← heq] at hE
      exact hE _ h1
  · rintro t H ⟨i', hi', hn, -⟩; omega
def dnE (D : Dl) (N : Nat) (E : T5 → AH → Prop) (s : T5) (H : AH) : Prop := lp (fun (s34 : Value × Value × Value × Value × Value × Unit) H35 R36 => jn (fun (s37 : Value × Value × Value × Value × Value × Unit) H38 => bn (binT BinOp.sub none false (Prod.fst (Prod.snd (Prod.snd (Prod.snd (Prod.snd s37))))) (.int .i64 1)) fun v39 => R36 (Prod.fst s37, Prod.fst (Prod.snd s37), Prod.fst (Prod.snd (Prod.snd s37)), Prod.fst (Prod.snd (Prod.snd (Prod.snd s37))), v39, ()) H38) fun R40 => bn (binT BinOp.leq none false (Prod.fst (Prod.snd (Prod.snd (Prod.snd s34)))) (Prod.fst (Prod.snd (Prod.snd (Prod.snd (Prod.snd s34)))))) fun v41 => gdD v41 true (bn (ixS 2 (Prod.fst s34) (Prod.fst (Prod.snd s34))) fun v42 => bn (ldN 2 v42 H35) fun v43 => bn (ixS 2 (Prod.fst s34) (Prod.fst (Prod.snd (Prod.snd (Prod.snd (Prod.snd s34)))))) fun v44 => bn (ldN 2 v44 H35) fun v45 => callV D (Prod.fst (Prod.snd (Prod.snd s34))) [v43, v45] H35 fun v46 H47 => bn (binT BinOp.lss none false v46 (.int .i64 0)) fun v48 => cnd v48 (R40 (Prod.fst s34, Prod.fst (Prod.snd s34), Prod.fst (Prod.snd (Prod.snd s34)), Prod.fst (Prod.snd (Prod.snd (Prod.snd s34))), Prod.fst (Prod.snd (Prod.snd (Prod.snd (Prod.snd s34)))), ()) H47) (E (Prod.fst s34, Prod.fst (Prod.snd s34), Prod.fst (Prod.snd (Prod.snd s34)), Prod.fst (Prod.snd (Prod.snd (Prod.snd s34))), Prod.fst (Prod.snd (Prod.snd (Prod.snd (Prod.snd s34)))), ()) H47)) (cnd (.bool false) (R40 (Prod.fst s34, Prod.fst (Prod.snd s34), Prod.fst (Prod.snd (Prod.snd s34)), Prod.fst (Prod.snd (Prod.snd (Prod.snd s34))), Prod.fst (Prod.snd (Prod.snd (Prod.snd (Prod.snd s34)))), ()) H35) (E (Prod.fst s34, Prod.fst (Prod.snd s34), Prod.fst (Prod.snd (Prod.snd s34)), Prod.fst (Prod.snd (Prod.snd (Prod.snd s34))), Prod.fst (Prod.snd (Prod.snd (Prod.snd (Prod.snd s34)))), ()) H35))) N s H
theorem dnE_ok {N m a i j cap : Nat} {d : WA} {H : AH} {E : T5 → AH → Prop} {F : SL} (hN : d.size + 2 ≤ N) (ha : a < d.size) (hi : 1 ≤ i) (hj : j < d.size) (hsz : d.size < 1000000) (hs : sat H (pts m (wobj d) * F))
    (hE : ∀ H', sat H' (pts m (wobj d) * F) → E (slc m d.size cap, .int .i64 (a : Int), cmpF, .int .i64 (i : Int), .int .i64 ((Sort.scanDown (fun x => ltW d[a]! x) d i j : Nat) : Int), ()) H') :
    dnE (DS Try.prog) N E (slc m d.size cap, .int .i64 (a : Int), cmpF, .int .i64 (i : Int), .int .i64 (j : Int), ()) H := by
  unfold dnE
  refine lp_rule (fun n t H => ∃ j' : Nat, j' < d.size ∧ j' < n ∧ t = (slc m d.size cap, .int .i64 (a : Int), cmpF, .int .i64 (i : Int), .int .i64 (j' : Int), ()) ∧
    Sort.scanDown (fun x => ltW d[a]! x) d i j' = Sort.scanDown (fun x => ltW d[a]! x) d i j ∧ sat H (pts m (wobj d) * F)) ?_ ?_ ⟨j, hj, by omega, rfl, rfl, hs⟩
  · rintro n t H ⟨j', hj', hn, rfl, heq, h1⟩ R hR
    simp only [RS, List.cons_append, List.nil_append, Option.isNone_some, Option.isNone_none, Option.isSome_some, Option.isSome_none, Nat.zero_add, Nat.add_zero, Nat.reduceAdd, List.getElem?_cons_zero, List.getElem?_cons_succ, List.length_cons, List.length_nil, List.all_cons, List.all_nil, Bool.and_self, Bool.and_true, Bool.true_and, Option.bind_some, Nat.reduceLeDiff, Nat.reduceEqDiff, Nat.le_refl, and_self, if_true, if_false, List.drop_zero, List.drop_succ_cons, List.take_zero, List.take_succ_cons, List.take_nil, List.drop_nil, true_and, and_true, decide_true, decide_false, Nat.reduceMul, Nat.zero_mul, Nat.one_mul, Nat.mul_one]
    by_cases hij : i ≤ j'
    · have e : decide ((i : Int) ≤ (j' : Int)) = true := by simpa using hij
      obtain ⟨j'', rfl⟩ : ∃ j'', j' = j'' + 1 := ⟨j' - 1, by omega⟩
      have w1 : IntKind.i64.wrap (((j'' + 1 : Nat) : Int) - 1) = (j'' : Int) := by rw [w64n (by omega)]; omega
      rw [Sort.scanDown] at heq
      have e' : decide (i ≤ j'' + 1) = true := by simpa using hij
      have g := (sat_get h1).1
      have i1 := ixw (m := m) (cap := cap) (show j'' + 1 < d.size by omega)
      have i2 := ixw (m := m) (cap := cap) ha
      simp only [e, RS, List.cons_append, List.nil_append, Option.isNone_some, Option.isNone_none, Option.isSome_some, Option.isSome_none, Nat.zero_add, Nat.add_zero, Nat.reduceAdd, List.getElem?_cons_zero, List.getElem?_cons_succ, List.length_cons, List.length_nil, List.all_cons, List.all_nil, Bool.and_self, Bool.and_true, Bool.true_and, Option.bind_some, Nat.reduceLeDiff, Nat.reduceEqDiff, Nat.le_refl, and_self, if_true, if_false, List.drop_zero, List.drop_succ_cons, List.take_zero, List.take_succ_cons, List.take_nil, List.drop_nil, true_and, and_true, decide_true, decide_false, Nat.reduceMul, Nat.zero_mul, Nat.one_mul, Nat.mul_one, i1, i2, g, ldw (show j'' + 1 < d.size by omega), ldw ha]
      refine cmp_ok h1 fun H2 h2 => ?_
      simp only [RS, List.cons_append, List.nil_append, Option.isNone_some, Option.isNone_none, Option.isSome_some, Option.isSome_none, Nat.zero_add, Nat.add_zero, Nat.reduceAdd, List.getElem?_cons_zero, List.getElem?_cons_succ, List.length_cons, List.length_nil, List.all_cons, List.all_nil, Bool.and_self, Bool.and_true, Bool.true_and, Option.bind_some, Nat.reduceLeDiff, Nat.reduceEqDiff, Nat.le_refl, and_self, if_true, if_false, List.drop_zero, List.drop_succ_cons, List.take_zero, List.take_succ_cons, List.take_nil, List.drop_nil, true_and, and_true, decide_true, decide_false, Nat.reduceMul, Nat.zero_mul, Nat.one_mul, Nat.mul_one, cmpI_lt]
      cases hl : ltW d[a]! d[j'' + 1]! with
      | true =>
        simp only [e', hl, Bool.true_and, Bool.not_true, Bool.false_eq_true, if_true, if_false] at heq
        simp only [RS, List.cons_append, List.nil_append, Option.isNone_some, Option.isNone_none, Option.isSome_some, Option.isSome_none, Nat.zero_add, Nat.add_zero, Nat.reduceAdd, List.getElem?_cons_zero, List.getElem?_cons_succ, List.length_cons, List.length_nil, List.all_cons, List.all_nil, Bool.and_self, Bool.and_true, Bool.true_and, Option.bind_some, Nat.reduceLeDiff, Nat.reduceEqDiff, Nat.le_refl, and_self, if_true, if_false, List.drop_zero, List.drop_succ_cons, List.take_zero, List.take_succ_cons, List.take_nil, List.drop_nil, true_and, and_true, decide_true, decide_false, Nat.reduceMul, Nat.zero_mul, Nat.one_mul, Nat.mul_one, Bool.not_true]
        simp only [w1]
        exact hR _ _ ⟨j'', by omega, by omega, rfl, heq, h2⟩
      | false =>
        simp only [e', hl, Bool.true_and, Bool.not_false, Bool.false_eq_true, if_true, if_false] at heq
        simp only [RS, List.cons_append, List.nil_append, Option.isNone_some, Option.isNone_none, Option.isSome_some, Option.isSome_none, Nat.zero_add, Nat.add_zero, Nat.reduceAdd, List.getElem?_cons_zero, List.getElem?_cons_succ, List.length_cons, List.length_nil, List.all_cons, List.all_nil, Bool.and_self, Bool.and_true, Bool.true_and, Option.bind_some, Nat.reduceLeDiff, Nat.reduceEqDiff, Nat.le_refl, and_self, if_true, if_false, List.drop_zero, List.drop_succ_cons, List.take_zero, List.take_succ_cons, List.take_nil, List.drop_nil, true_and, and_true, decide_true, decide_false, Nat.reduceMul, Nat.zero_mul, Nat.one_mul, Nat.mul_one, Bool.not_false]
        rw [← heq] at hE
        exact hE _ h2
    · have e : decide ((i : Int) ≤ (j' : Int)) = false := by simpa using hij
      have heq2 : Sort.scanDown (fun x => ltW d[a]! x) d i j' = j' := by
        cases j' with
        | zero => rfl
        | succ j'' =>
          rw [Sort.scanDown]
          have e' : decide (i ≤ j'' + 1) = false := by simpa using hij
          simp only [e', Bool.false_and, Bool.false_eq_true, if_false]
      simp only [e, RS, List.cons_append, List.nil_append, Option.isNone_some, Option.isNone_none, Option.isSome_some, Option.isSome_none, Nat.zero_add, Nat.add_zero, Nat.reduceAdd, List.getElem?_cons_zero, List.getElem?_cons_succ, List.length_cons, List.length_nil, List.all_cons, List.all_nil, Bool.and_self, Bool.and_true, Bool.true_and, Option.bind_some, Nat.reduceLeDiff, Nat.reduceEqDiff, Nat.le_refl, and_self, if_true, if_false, List.drop_zero, List.drop_succ_cons, List.take_zero, List.take_succ_cons, List.take_nil, List.drop_nil, true_and, and_true, decide_true, decide_false, Nat.reduceMul, Nat.zero_mul, Nat.one_mul, Nat.mul_one]
      rw [← heq, heq2] at hE
      exact hE _ h1
  · rintro t H ⟨j', hj', hn, -⟩; omega
def upE (D : Dl) (N : Nat) (E : T5 → AH → Prop) (s : T5) (H : AH) : Prop := lp (fun (s50 : Value × Value × Value × Value × Value × Unit) H51 R52 => jn (fun (s53 : Value × Value × Value × Value × Value × Unit) H54 => bn (binT BinOp.add none false (Prod.fst (Prod.snd (Prod.snd (Prod.snd s53)))) (.int .i64 1)) fun v55 => R52 (Prod.fst s53, Prod.fst (Prod.snd s53), Prod.fst (Prod.snd (Prod.snd s53)), v55, Prod.fst (Prod.snd (Prod.snd (Prod.snd (Prod.snd s53)))), ()) H54) fun R56 => bn (binT BinOp.leq none false (Prod.fst (Prod.snd (Prod.snd (Prod.snd s50)))) (Prod.fst (Prod.snd (Prod.snd (Prod.snd (Prod.snd s50)))))) fun v57 => gdD v57 true (bn (ixS 2 (Prod.fst s50) (Prod.fst (Prod.snd s50))) fun v58 => bn (ldN 2 v58 H51) fun v59 => bn (ixS 2 (Prod.fst s50) (Prod.fst (Prod.snd (Prod.snd (Prod.snd s50))))) fun v60 => bn (ldN 2 v60 H51) fun v61 => callV D (Prod.fst (Prod.snd (Prod.snd s50))) [v59, v61] H51 fun v62 H63 => bn (binT BinOp.lss none false v62 (.int .i64 0)) fun v64 => bn (unS UnOp.not v64) fun v65 => cnd v65 (R56 (Prod.fst s50, Prod.fst (Prod.snd s50), Prod.fst (Prod.snd (Prod.snd s50)), Prod.fst (Prod.snd (Prod.snd (Prod.snd s50))), Prod.fst (Prod.snd (Prod.snd (Prod.snd (Prod.snd s50)))), ()) H63) (E (Prod.fst s50, Prod.fst (Prod.snd s50), Prod.fst (Prod.snd (Prod.snd s50)), Prod.fst (Prod.snd (Prod.snd (Prod.snd s50))), Prod.fst (Prod.snd (Prod.snd (Prod.snd (Prod.snd s50)))), ()) H63)) (cnd (.bool false) (R56 (Prod.fst s50, Prod.fst (Prod.snd s50), Prod.fst (Prod.snd (Prod.snd s50)), Prod.fst (Prod.snd (Prod.snd (Prod.snd s50))), Prod.fst (Prod.snd (Prod.snd (Prod.snd (Prod.snd s50)))), ()) H51) (E (Prod.fst s50, Prod.fst (Prod.snd s50), Prod.fst (Prod.snd (Prod.snd s50)), Prod.fst (Prod.snd (Prod.snd (Prod.snd s50))), Prod.fst (Prod.snd (Prod.snd (Prod.snd (Prod.snd s50)))), ()) H51))) N s H
theorem upE_ok {N m a i j cap : Nat} {d : WA} {H : AH} {E : T5 → AH → Prop} {F : SL} (hN : d.size + 2 ≤ N) (ha : a < d.size) (hi : i ≤ d.size + 1) (hj : j < d.size) (hsz : d.size < 1000000) (hs : sat H (pts m (wobj d) * F))
    (hE : ∀ H', sat H' (pts m (wobj d) * F) → E (slc m d.size cap, .int .i64 (a : Int), cmpF, .int .i64 ((Sort.scanUp (fun x => !ltW d[a]! x) d j i : Nat) : Int), .int .i64 (j : Int), ()) H') :
    upE (DS Try.prog) N E (slc m d.size cap, .int .i64 (a : Int), cmpF, .int .i64 (i : Int), .int .i64 (j : Int), ()) H := by
  unfold upE
  refine lp_rule (fun n t H => ∃ i' : Nat, i' ≤ d.size + 1 ∧ d.size + 1 < n + i' ∧ t = (slc m d.size cap, .int .i64 (a : Int), cmpF, .int .i64 (i' : Int), .int .i64 (j : Int), ()) ∧
    Sort.scanUp (fun x => !ltW d[a]! x) d j i' = Sort.scanUp (fun x => !ltW d[a]! x) d j i ∧ sat H (pts m (wobj d) * F)) ?_ ?_ ⟨i, hi, by omega, rfl, rfl, hs⟩
  · rintro n t H ⟨i', hi', hn, rfl, heq, h1⟩ R hR
    have w1 : IntKind.i64.wrap ((i' : Int) + 1) = ((i' + 1 : Nat) : Int) := by rw [w64n (by omega)]; omega
    simp only [RS, List.cons_append, List.nil_append, Option.isNone_some, Option.isNone_none, Option.isSome_some, Option.isSome_none, Nat.zero_add, Nat.add_zero, Nat.reduceAdd, List.getElem?_cons_zero, List.getElem?_cons_succ, List.length_cons, List.length_nil, List.all_cons, List.all_nil, Bool.and_self, Bool.and_true, Bool.true_and, Option.bind_some, Nat.reduceLeDiff, Nat.reduceEqDiff, Nat.le_refl, and_self, if_true, if_false, List.drop_zero, List.drop_succ_cons, List.take_zero, List.take_succ_cons, List.take_nil, List.drop_nil, true_and, and_true, decide_true, decide_false, Nat.reduceMul, Nat.zero_mul, Nat.one_mul, Nat.mul_one, w1]
    rw [Sort.scanUp] at heq
    by_cases hij : i' ≤ j
    · have e : decide ((i' : Int) ≤ (j : Int)) = true := by simpa using hij
      have e' : decide (i' ≤ j) = true := by simpa using hij
      have g := (sat_get h1).1
      have i1 := ixw (m := m) (cap := cap) (show i' < d.size by omega)
      have i2 := ixw (m := m) (cap := cap) ha
      simp only [e, RS, List.cons_append, List.nil_append, Option.isNone_some, Option.isNone_none, Option.isSome_some, Option.isSome_none, Nat.zero_add, Nat.add_zero, Nat.reduceAdd, List.getElem?_cons_zero, List.getElem?_cons_succ, List.length_cons, List.length_nil, List.all_cons, List.all_nil, Bool.and_self, Bool.and_true, Bool.true_and, Option.bind_some, Nat.reduceLeDiff, Nat.reduceEqDiff, Nat.le_refl, and_self, if_true, if_false, List.drop_zero, List.drop_succ_cons, List.take_zero, List.take_succ_cons, List.take_nil, List.drop_nil, true_and, and_true, decide_true, decide_false, Nat.reduceMul, Nat.zero_mul, Nat.one_mul, Nat.mul_one, i1, i2, g, ldw (show i' < d.size by omega), ldw ha]
      refine cmp_ok h1 fun H2 h2 => ?_
      simp only [RS, List.cons_append, List.nil_append, Option.isNone_some, Option.isNone_none, Option.isSome_some, Option.isSome_none, Nat.zero_add, Nat.add_zero, Nat.reduceAdd, List.getElem?_cons_zero, List.getElem?_cons_succ, List.length_cons, List.length_nil, List.all_cons, List.all_nil, Bool.and_self, Bool.and_true, Bool.true_and, Option.bind_some, Nat.reduceLeDiff, Nat.reduceEqDiff, Nat.le_refl, and_self, if_true, if_false, List.drop_zero, List.drop_succ_cons, List.take_zero, List.take_succ_cons, List.take_nil, List.drop_nil, true_and, and_true, decide_true, decide_false, Nat.reduceMul, Nat.zero_mul, Nat.one_mul, Nat.mul_one, cmpI_lt]
      cases hl : ltW d[a]! d[i']! with
      | true =>
        simp only [e', hl, Bool.true_and, Bool.not_true, Bool.false_eq_true, if_true, if_false] at heq
        simp only [RS, List.cons_append, List.nil_append, Option.isNone_some, Option.isNone_none, Option.isSome_some, Option.isSome_none, Nat.zero_add, Nat.add_zero, Nat.reduceAdd, List.getElem?_cons_zero, List.getElem?_cons_succ, List.length_cons, List.length_nil, List.all_cons, List.all_nil, Bool.and_self, Bool.and_true, Bool.true_and, Option.bind_some, Nat.reduceLeDiff, Nat.reduceEqDiff, Nat.le_refl, and_self, if_true, if_false, List.drop_zero, List.drop_succ_cons, List.take_zero, List.take_succ_cons, List.take_nil, List.drop_nil, true_and, and_true, decide_true, decide_false, Nat.reduceMul, Nat.zero_mul, Nat.one_mul, Nat.mul_one, Bool.not_true]
        rw [← heq] at hE
        exact hE _ h2
      | false =>
        simp only [e', hl, Bool.true_and, Bool.not_false, Bool.false_eq_true, if_true, if_false] at heq
        simp only [RS, List.cons_append, List.nil_append, Option.isNone_some, Option.isNone_none, Option.isSome_some, Option.isSome_none, Nat.zero_add, Nat.add_zero, Nat.reduceAdd, List.getElem?_cons_zero, List.getElem?_cons_succ, List.length_cons, List.length_nil, List.all_cons, List.all_nil, Bool.and_self, Bool.and_true, Bool.true_and, Option.bind_some, Nat.reduceLeDiff, Nat.reduceEqDiff, Nat.le_refl, and_self, if_true, if_false, List.drop_zero, List.drop_succ_cons, List.take_zero, List.take_succ_cons, List.take_nil, List.drop_nil, true_and, and_true, decide_true, decide_false, Nat.reduceMul, Nat.zero_mul, Nat.one_mul, Nat.mul_one, Bool.not_false]
        simp only [w1]
        exact hR _ _ ⟨i' + 1, by omega, by omega, rfl, heq, h2⟩
    · have e : decide ((i' : Int) ≤ (j : Int)) = false := by simpa using hij
      have e' : decide (i' ≤ j) = false := by simpa using hij
      simp only [e', Bool.false_and, Bool.false_eq_true, if_false] at heq
      simp only [e, RS, List.cons_append, List.nil_append, Option.isNone_some, Option.isNone_none, Option.isSome_some, Option.isSome_none, Nat.zero_add, Nat.add_zero, Nat.reduceAdd, List.getElem?_cons_zero, List.getElem?_cons_succ, List.length_cons, List.length_nil, List.all_cons, List.all_nil, Bool.and_self, Bool.and_true, Bool.true_and, Option.bind_some, Nat.reduceLeDiff, Nat.reduceEqDiff, Nat.le_refl, and_self, if_true, if_false, List.drop_zero, List.drop_succ_cons, List.take_zero, List.take_succ_cons, List.take_nil, List.drop_nil, true_and, and_true, decide_true, decide_false, Nat.reduceMul, Nat.zero_mul, Nat.one_mul, Nat.mul_one]
      rw [← heq] at hE
      exact hE _ h1
  · rintro t H ⟨i', hi', hn, -⟩; omega
end Go.Proofs.Ytiolnpeniklhiaa
