/- slices.SortFunc over words, its parts (3): the choice of a pivot.
   Conditions: what stands in memory, as each states it. -/
import Derived.Test.YtiolnpeniklhiaaSort2
namespace Go.Proofs.Ytiolnpeniklhiaa
open Go Go.Ab
set_option linter.all false
set_option maxRecDepth 100000

abbrev swO (s : Nat) : AObj := .cells [.int .i64 (s : Int)] Ty.int .fix
theorem order2_ok {m a b q s cap : Nat} {d : WA} {H : AH} {K : KV} {F : SL} (ha : a < d.size) (hb : b < d.size) (hsz : d.size < 1000000) (hsw : s < 1000) (hs : sat H (pts m (wobj d) * (pts q (swO s) * F)))
    (hK : ∀ H', sat H' (pts m (wobj d) * (pts q (swO (Sort.order2 ltW d a b s).2.2) * F)) → K (.tuple ⟨[.int .i64 ((Sort.order2 ltW d a b s).1 : Int), .int .i64 ((Sort.order2 ltW d a b s).2.1 : Int)]⟩) H') :
    DS Try.prog Fi.slices_order2CmpFunc_cells_Word [slc m d.size cap, .int .i64 (a : Int), .int .i64 (b : Int), ptr q, cmpF] H K := by
  refine use_slices_order2CmpFunc_cells_Word 0 ?_
  unfold sh_slices_order2CmpFunc_cells_Word
  have i1 := ixw (m := m) (cap := cap) ha
  have i2 := ixw (m := m) (cap := cap) hb
  have g := (sat_get hs).1
  simp only [RS, List.cons_append, List.nil_append, Option.isNone_some, Option.isNone_none, Option.isSome_some, Option.isSome_none, Nat.zero_add, Nat.add_zero, Nat.reduceAdd, List.getElem?_cons_zero, List.getElem?_cons_succ, List.length_cons, List.length_nil, List.all_cons, List.all_nil, Bool.and_self, Bool.and_true, Bool.true_and, Option.bind_some, Nat.reduceLeDiff, Nat.reduceEqDiff, Nat.le_refl, and_self, if_true, if_false, List.drop_zero, List.drop_succ_cons, List.take_zero, List.take_succ_cons, List.take_nil, List.drop_nil, true_and, and_true, decide_true, decide_false, Nat.reduceMul, Nat.zero_mul, Nat.one_mul, Nat.mul_one, i1, i2, g, ldw ha, ldw hb]
  refine cmp_ok hs fun H1 h1 => ?_
  simp only [RS, List.cons_append, List.nil_append, Option.isNone_some, Option.isNone_none, Option.isSome_some, Option.isSome_none, Nat.zero_add, Nat.add_zero, Nat.reduceAdd, List.getElem?_cons_zero, List.getElem?_cons_succ, List.length_cons, List.length_nil, List.all_cons, List.all_nil, Bool.and_self, Bool.and_true, Bool.true_and, Option.bind_some, Nat.reduceLeDiff, Nat.reduceEqDiff, Nat.le_refl, and_self, if_true, if_false, List.drop_zero, List.drop_succ_cons, List.take_zero, List.take_succ_cons, List.take_nil, List.drop_nil, true_and, and_true, decide_true, decide_false, Nat.reduceMul, Nat.zero_mul, Nat.one_mul, Nat.mul_one, cmpI_lt]
  unfold Sort.order2 at hK
  have hq : H1.get q = some (swO s) := (sat_get (sat_sub h1)).1
  cases hlt : ltW d[b]! d[a]! with
  | true =>
    simp only [hlt, if_true] at hK
    have w1 : IntKind.i64.wrap ((s : Int) + 1) = ((s + 1 : Nat) : Int) := by rw [w64n (by omega)]; omega
    simp only [RS, List.cons_append, List.nil_append, Option.isNone_some, Option.isNone_none, Option.isSome_some, Option.isSome_none, Nat.zero_add, Nat.add_zero, Nat.reduceAdd, List.getElem?_cons_zero, List.getElem?_cons_succ, List.length_cons, List.length_nil, List.all_cons, List.all_nil, Bool.and_self, Bool.and_true, Bool.true_and, Option.bind_some, Nat.reduceLeDiff, Nat.reduceEqDiff, Nat.le_refl, and_self, if_true, if_false, List.drop_zero, List.drop_succ_cons, List.take_zero, List.take_succ_cons, List.take_nil, List.drop_nil, true_and, and_true, decide_true, decide_false, Nat.reduceMul, Nat.zero_mul, Nat.one_mul, Nat.mul_one, ptr, hq, w1]
    refine hK _ ?_
    have h2 := sat_put (swO (s + 1)) (sat_of_eq (B := pts q (swO s) * (pts m (wobj d) * F)) h1 (by ac_rfl))
    exact sat_of_eq h2 (by ac_rfl)
  | false =>
    simp only [hlt, Bool.false_eq_true, if_false] at hK
    simp only [RS, List.cons_append, List.nil_append, Option.isNone_some, Option.isNone_none, Option.isSome_some, Option.isSome_none, Nat.zero_add, Nat.add_zero, Nat.reduceAdd, List.getElem?_cons_zero, List.getElem?_cons_succ, List.length_cons, List.length_nil, List.all_cons, List.all_nil, Bool.and_self, Bool.and_true, Bool.true_and, Option.bind_some, Nat.reduceLeDiff, Nat.reduceEqDiff, Nat.le_refl, and_self, if_true, if_false, List.drop_zero, List.drop_succ_cons, List.take_zero, List.take_succ_cons, List.take_nil, List.drop_nil, true_and, and_true, decide_true, decide_false, Nat.reduceMul, Nat.zero_mul, Nat.one_mul, Nat.mul_one]
    exact hK _ h1
theorem order2_lt (d : WA) (a b s n : Nat) (ha : a < n) (hb : b < n) : (Sort.order2 ltW d a b s).1 < n ∧ (Sort.order2 ltW d a b s).2.1 < n ∧ (Sort.order2 ltW d a b s).2.2 ≤ s + 1 := by
  unfold Sort.order2; split <;> simp [ha, hb]
theorem median_lt (d : WA) (a b c s n : Nat) (ha : a < n) (hb : b < n) (hc : c < n) : (Sort.median ltW d a b c s).1 < n ∧ (Sort.median ltW d a b c s).2 ≤ s + 3 := by
  have h1 := order2_lt d a b s n ha hb
  have h2 := order2_lt d (Sort.order2 ltW d a b s).2.1 c (Sort.order2 ltW d a b s).2.2 n h1.2.1 hc
  have h3 := order2_lt d (Sort.order2 ltW d a b s).1 (Sort.order2 ltW d (Sort.order2 ltW d a b s).2.1 c (Sort.order2 ltW d a b s).2.2).1 (Sort.order2 ltW d (Sort.order2 ltW d a b s).2.1 c (Sort.order2 ltW d a b s).2.2).2.2 n h1.1 h2.1
  unfold Sort.median
  exact ⟨h3.2.1, by simp only; omega⟩
theorem median_ok {m a b c q s cap : Nat} {d : WA} {H : AH} {K : KV} {F : SL} (ha : a < d.size) (hb : b < d.size) (hc : c < d.size) (hsz : d.size < 1000000) (hsw : s < 900) (hs : sat H (pts m (wobj d) * (pts q (swO s) * F)))
    (hK : ∀ H', sat H' (pts m (wobj d) * (pts q (swO (Sort.median ltW d a b c s).2) * F)) → K (.int .i64 ((Sort.median ltW d a b c s).1 : Int)) H') :
    DS Try.prog Fi.slices_medianCmpFunc_cells_Word [slc m d.size cap, .int .i64 (a : Int), .int .i64 (b : Int), .int .i64 (c : Int), ptr q, cmpF] H K := by
  refine use_slices_medianCmpFunc_cells_Word 0 ?_
  unfold sh_slices_medianCmpFunc_cells_Word
  have h1 := order2_lt d a b s _ ha hb
  have h2 := order2_lt d (Sort.order2 ltW d a b s).2.1 c (Sort.order2 ltW d a b s).2.2 _ h1.2.1 hc
  simp only [RS, List.cons_append, List.nil_append, Option.isNone_some, Option.isNone_none, Option.isSome_some, Option.isSome_none, Nat.zero_add, Nat.add_zero, Nat.reduceAdd, List.getElem?_cons_zero, List.getElem?_cons_succ, List.length_cons, List.length_nil, List.all_cons, List.all_nil, Bool.and_self, Bool.and_true, Bool.true_and, Option.bind_some, Nat.reduceLeDiff, Nat.reduceEqDiff, Nat.le_refl, and_self, if_true, if_false, List.drop_zero, List.drop_succ_cons, List.take_zero, List.take_succ_cons, List.take_nil, List.drop_nil, true_and, and_true, decide_true, decide_false, Nat.reduceMul, Nat.zero_mul, Nat.one_mul, Nat.mul_one]
  refine order2_ok ha hb hsz (by omega) hs fun H1 g1 => ?_
  simp only [RS, List.cons_append, List.nil_append, Option.isNone_some, Option.isNone_none, Option.isSome_some, Option.isSome_none, Nat.zero_add, Nat.add_zero, Nat.reduceAdd, List.getElem?_cons_zero, List.getElem?_cons_succ, List.length_cons, List.length_nil, List.all_cons, List.all_nil, Bool.and_self, Bool.and_true, Bool.true_and, Option.bind_some, Nat.reduceLeDiff, Nat.reduceEqDiff, Nat.le_refl, and_self, if_true, if_false, List.drop_zero, List.drop_succ_cons, List.take_zero, List.take_succ_cons, List.take_nil, List.drop_nil, true_and, and_true, decide_true, decide_false, Nat.reduceMul, Nat.zero_mul, Nat.one_mul, Nat.mul_one]
  refine order2_ok h1.2.1 hc hsz (by omega) g1 fun H2 g2 => ?_
  simp only [RS, List.cons_append, List.nil_append, Option.isNone_some, Option.isNone_none, Option.isSome_some, Option.isSome_none, Nat.zero_add, Nat.add_zero, Nat.reduceAdd, List.getElem?_cons_zero, List.getElem?_cons_succ, List.length_cons, List.length_nil, List.all_cons, List.all_nil, Bool.and_self, Bool.and_true, Bool.true_and, Option.bind_some, Nat.reduceLeDiff, Nat.reduceEqDiff, Nat.le_refl, and_self, if_true, if_false, List.drop_zero, List.drop_succ_cons, List.take_zero, List.take_succ_cons, List.take_nil, List.drop_nil, true_and, and_true, decide_true, decide_false, Nat.reduceMul, Nat.zero_mul, Nat.one_mul, Nat.mul_one]
  refine order2_ok h1.1 h2.1 hsz (by omega) g2 fun H3 g3 => ?_
  simp only [RS, List.cons_append, List.nil_append, Option.isNone_some, Option.isNone_none, Option.isSome_some, Option.isSome_none, Nat.zero_add, Nat.add_zero, Nat.reduceAdd, List.getElem?_cons_zero, List.getElem?_cons_succ, List.length_cons, List.length_nil, List.all_cons, List.all_nil, Bool.and_self, Bool.and_true, Bool.true_and, Option.bind_some, Nat.reduceLeDiff, Nat.reduceEqDiff, Nat.le_refl, and_self, if_true, if_false, List.drop_zero, List.drop_succ_cons, List.take_zero, List.take_succ_cons, List.take_nil, List.drop_nil, true_and, and_true, decide_true, decide_false, Nat.reduceMul, Nat.zero_mul, Nat.one_mul, Nat.mul_one]
  exact hK _ g3
theorem adjacent_ok {m a q s cap : Nat} {d : WA} {H : AH} {K : KV} {F : SL} (ha : 1 ≤ a) (ha2 : a + 1 < d.size) (hsz : d.size < 1000000) (hsw : s < 900) (hs : sat H (pts m (wobj d) * (pts q (swO s) * F)))
    (hK : ∀ H', sat H' (pts m (wobj d) * (pts q (swO (Sort.medianAdjacent ltW d a s).2) * F)) → K (.int .i64 ((Sort.medianAdjacent ltW d a s).1 : Int)) H') :
    DS Try.prog Fi.slices_medianAdjacentCmpFunc_cells_Word [slc m d.size cap, .int .i64 (a : Int), ptr q, cmpF] H K := by
  refine use_slices_medianAdjacentCmpFunc_cells_Word 0 ?_
  unfold sh_slices_medianAdjacentCmpFunc_cells_Word
  have w1 : IntKind.i64.wrap ((a : Int) - 1) = ((a - 1 : Nat) : Int) := by rw [w64n (by omega)]; omega
  have w2 : IntKind.i64.wrap ((a : Int) + 1) = ((a + 1 : Nat) : Int) := by rw [w64n (by omega)]; omega
  simp only [RS, List.cons_append, List.nil_append, Option.isNone_some, Option.isNone_none, Option.isSome_some, Option.isSome_none, Nat.zero_add, Nat.add_zero, Nat.reduceAdd, List.getElem?_cons_zero, List.getElem?_cons_succ, List.length_cons, List.length_nil, List.all_cons, List.all_nil, Bool.and_self, Bool.and_true, Bool.true_and, Option.bind_some, Nat.reduceLeDiff, Nat.reduceEqDiff, Nat.le_refl, and_self, if_true, if_false, List.drop_zero, List.drop_succ_cons, List.take_zero, List.take_succ_cons, List.take_nil, List.drop_nil, true_and, and_true, decide_true, decide_false, Nat.reduceMul, Nat.zero_mul, Nat.one_mul, Nat.mul_one, w1, w2]
  refine median_ok (by omega) (by omega) (by omega) hsz hsw hs fun H1 h1 => ?_
  exact hK _ h1
theorem adjacent_lt (d : WA) (a s n : Nat) (ha : a + 1 < n) : (Sort.medianAdjacent ltW d a s).1 < n ∧ (Sort.medianAdjacent ltW d a s).2 ≤ s + 3 :=
  median_lt d (a - 1) a (a + 1) s n (by omega) (by omega) (by omega)
def hintN : Sort.Hint → Int
  | .unknown => 0
  | .increasing => 1
  | .decreasing => 2
theorem choose_ok {m a b cap : Nat} {d : WA} {H : AH} {K : KV} {F : SL} (hab : a < b) (hb : b ≤ d.size) (hsz : d.size < 1000000) (hs : sat H (pts m (wobj d) * F))
    (hK : ∀ H', sat H' (pts m (wobj d) * F) → K (.tuple ⟨[.int .i64 ((Sort.choosePivot ltW d a b).1 : Int), .int .i64 (hintN (Sort.choosePivot ltW d a b).2)]⟩) H') :
    DS Try.prog Fi.slices_choosePivotCmpFunc_cells_Word [slc m d.size cap, .int .i64 (a : Int), .int .i64 (b : Int), cmpF] H K := by
  refine use_slices_choosePivotCmpFunc_cells_Word 0 ?_
  unfold sh_slices_choosePivotCmpFunc_cells_Word
  have w0 : IntKind.i64.wrap ((b : Int) - (a : Int)) = ((b - a : Nat) : Int) := by rw [w64n (by omega)]; omega
  have w1 : IntKind.i64.wrap (((b - a : Nat) : Int).tdiv 4) = (((b - a) / 4 : Nat) : Int) := by rw [Int.tdiv_eq_ediv_of_nonneg (by omega), w64n (by omega)]; omega
  have w2 : IntKind.i64.wrap ((((b - a) / 4 : Nat) : Int) * 1) = (((b - a) / 4 * 1 : Nat) : Int) := by rw [w64n (by omega)]; omega
  have w3 : IntKind.i64.wrap ((((b - a) / 4 : Nat) : Int) * 2) = (((b - a) / 4 * 2 : Nat) : Int) := by rw [w64n (by omega)]; omega
  have w4 : IntKind.i64.wrap ((((b - a) / 4 : Nat) : Int) * 3) = (((b - a) / 4 * 3 : Nat) : Int) := by rw [w64n (by omega)]; omega
  obtain ⟨i0, hi0⟩ : ∃ i0, i0 = a + (b - a) / 4 * 1 := ⟨_, rfl⟩
  obtain ⟨j0, hj0⟩ : ∃ j0, j0 = a + (b - a) / 4 * 2 := ⟨_, rfl⟩
  obtain ⟨k0, hk0⟩ : ∃ k0, k0 = a + (b - a) / 4 * 3 := ⟨_, rfl⟩
  have v2 : IntKind.i64.wrap ((a : Int) + (((b - a) / 4 * 1 : Nat) : Int)) = (i0 : Int) := by rw [w64n (by omega)]; omega
  have v3 : IntKind.i64.wrap ((a : Int) + (((b - a) / 4 * 2 : Nat) : Int)) = (j0 : Int) := by rw [w64n (by omega)]; omega
  have v4 : IntKind.i64.wrap ((a : Int) + (((b - a) / 4 * 3 : Nat) : Int)) = (k0 : Int) := by rw [w64n (by omega)]; omega
  have w1' : (((b - a) / 4 : Nat) : Int) = ((b - a : Nat) : Int) / 4 := by omega
  have hn : sat (H.new (swO 0)) (pts m (wobj d) * (pts H.nx (swO 0) * F)) := sat_of_eq (sat_new (swO 0) hs) (by ac_rfl)
  unfold Sort.choosePivot at hK
  simp only [← hi0, ← hj0, ← hk0] at hK
  have e0 : (([] : List Value) ++ [Value.int .i64 0]) = [Value.int .i64 0] := rfl
  simp only [bn_some, bnA_some, binT_sub_int, binT_mul_int, binT_add_int, binT_geq_int, w0, binT_quo_int _ _ _ _ 4 (by decide), w1, w2, w3, w4, v2, v3, v4]
  refine jn_rule (fun t H2 => ∃ r : Nat × Nat, t = (ptr H.nx, .int .i64 (r.1 : Int), ()) ∧
    r = (if b - a ≥ 8 then
      if b - a ≥ 50 then
        let ri := Sort.medianAdjacent ltW d i0 0
        let rj := Sort.medianAdjacent ltW d j0 ri.2
        let rk := Sort.medianAdjacent ltW d k0 rj.2
        Sort.median ltW d ri.1 rj.1 rk.1 rk.2
      else Sort.median ltW d i0 j0 k0 0
    else (j0, 0)) ∧ sat H2 (pts m (wobj d) * (pts H.nx (swO r.2) * F))) ?_ ?_
  · rintro t H2 ⟨r, rfl, hr, h2⟩
    rw [← hr] at hK
    have hq : H2.get H.nx = some (swO r.2) := (sat_get (sat_sub h2)).1
    have hf : sat H2 (pts m (wobj d) * F) := sat_sub (sat_of_eq (B := pts H.nx (swO r.2) * (pts m (wobj d) * F)) h2 (by ac_rfl))
    simp only [RS, List.cons_append, List.nil_append, Option.isNone_some, Option.isNone_none, Option.isSome_some, Option.isSome_none, Nat.zero_add, Nat.add_zero, Nat.reduceAdd, List.getElem?_cons_zero, List.getElem?_cons_succ, List.length_cons, List.length_nil, List.all_cons, List.all_nil, Bool.and_self, Bool.and_true, Bool.true_and, Option.bind_some, Nat.reduceLeDiff, Nat.reduceEqDiff, Nat.le_refl, and_self, if_true, if_false, List.drop_zero, List.drop_succ_cons, List.take_zero, List.take_succ_cons, List.take_nil, List.drop_nil, true_and, and_true, decide_true, decide_false, Nat.reduceMul, Nat.zero_mul, Nat.one_mul, Nat.mul_one, ptr, hq]
    have e1 : (((r.2 : Nat) : Int) == 0) = decide (r.2 = 0) := by
      by_cases h : r.2 = 0 <;> simp [h]
    have e2 : (((r.2 : Nat) : Int) == 12) = decide (r.2 = 12) := by
      by_cases h : r.2 = 12
      · simp [h]
      · simp only [h, decide_false]; simp; omega
    simp only [e1, e2]
    by_cases c0 : r.2 = 0
    · rw [if_pos c0] at hK
      simp only [c0, RS, List.cons_append, List.nil_append, Option.isNone_some, Option.isNone_none, Option.isSome_some, Option.isSome_none, Nat.zero_add, Nat.add_zero, Nat.reduceAdd, List.getElem?_cons_zero, List.getElem?_cons_succ, List.length_cons, List.length_nil, List.all_cons, List.all_nil, Bool.and_self, Bool.and_true, Bool.true_and, Option.bind_some, Nat.reduceLeDiff, Nat.reduceEqDiff, Nat.le_refl, and_self, if_true, if_false, List.drop_zero, List.drop_succ_cons, List.take_zero, List.take_succ_cons, List.take_nil, List.drop_nil, true_and, and_true, decide_true, decide_false, Nat.reduceMul, Nat.zero_mul, Nat.one_mul, Nat.mul_one]; exact hK _ hf
    · rw [if_neg c0] at hK
      by_cases c1 : r.2 = 12
      · rw [if_pos c1] at hK
        have c1' : decide (r.2 = 0) = false := by simp [c0]
        simp only [c1', RS, List.cons_append, List.nil_append, Option.isNone_some, Option.isNone_none, Option.isSome_some, Option.isSome_none, Nat.zero_add, Nat.add_zero, Nat.reduceAdd, List.getElem?_cons_zero, List.getElem?_cons_succ, List.length_cons, List.length_nil, List.all_cons, List.all_nil, Bool.and_self, Bool.and_true, Bool.true_and, Option.bind_some, Nat.reduceLeDiff, Nat.reduceEqDiff, Nat.le_refl, and_self, if_true, if_false, List.drop_zero, List.drop_succ_cons, List.take_zero, List.take_succ_cons, List.take_nil, List.drop_nil, true_and, and_true, decide_true, decide_false, Nat.reduceMul, Nat.zero_mul, Nat.one_mul, Nat.mul_one]
        have c2' : decide (r.2 = 12) = true := by simp [c1]
        simp only [c2', RS, List.cons_append, List.nil_append, Option.isNone_some, Option.isNone_none, Option.isSome_some, Option.isSome_none, Nat.zero_add, Nat.add_zero, Nat.reduceAdd, List.getElem?_cons_zero, List.getElem?_cons_succ, List.length_cons, List.length_nil, List.all_cons, List.all_nil, Bool.and_self, Bool.and_true, Bool.true_and, Option.bind_some, Nat.reduceLeDiff, Nat.reduceEqDiff, Nat.le_refl, and_self, if_true, if_false, List.drop_zero, List.drop_succ_cons, List.take_zero, List.take_succ_cons, List.take_nil, List.drop_nil, true_and, and_true, decide_true, decide_false, Nat.reduceMul, Nat.zero_mul, Nat.one_mul, Nat.mul_one]; exact hK _ hf
      · rw [if_neg c1] at hK
        have c1' : decide (r.2 = 0) = false := by simp [c0]
        have c2' : decide (r.2 = 12) = false := by simp [c1]
        simp only [c1', c2', RS, List.cons_append, List.nil_append, Option.isNone_some, Option.isNone_none, Option.isSome_some, Option.isSome_none, Nat.zero_add, Nat.add_zero, Nat.reduceAdd, List.getElem?_cons_zero, List.getElem?_cons_succ, List.length_cons, List.length_nil, List.all_cons, List.all_nil, Bool.and_self, Bool.and_true, Bool.true_and, Option.bind_some, Nat.reduceLeDiff, Nat.reduceEqDiff, Nat.le_refl, and_self, if_true, if_false, List.drop_zero, List.drop_succ_cons, List.take_zero, List.take_succ_cons, List.take_nil, List.drop_nil, true_and, and_true, decide_true, decide_false, Nat.reduceMul, Nat.zero_mul, Nat.one_mul, Nat.mul_one]; exact hK _ hf
  · intro R hR
    by_cases h8 : b - a ≥ 8
    · have e8 : decide (((b - a : Nat) : Int) ≥ 8) = true := by simp; omega
      simp only [e8, cnd_true]
      simp only [if_pos h8] at hR
      by_cases h50 : b - a ≥ 50
      · have e50 : decide (((b - a : Nat) : Int) ≥ 50) = true := by simp; omega
        simp only [if_pos h50] at hR
        simp only [e50, RS, List.cons_append, List.nil_append, Option.isNone_some, Option.isNone_none, Option.isSome_some, Option.isSome_none, Nat.zero_add, Nat.add_zero, Nat.reduceAdd, List.getElem?_cons_zero, List.getElem?_cons_succ, List.length_cons, List.length_nil, List.all_cons, List.all_nil, Bool.and_self, Bool.and_true, Bool.true_and, Option.bind_some, Nat.reduceLeDiff, Nat.reduceEqDiff, Nat.le_refl, and_self, if_true, if_false, List.drop_zero, List.drop_succ_cons, List.take_zero, List.take_succ_cons, List.take_nil, List.drop_nil, true_and, and_true, decide_true, decide_false, Nat.reduceMul, Nat.zero_mul, Nat.one_mul, Nat.mul_one]
        have l1 := adjacent_lt d i0 0 d.size (by omega)
        have l2 := adjacent_lt d j0 (Sort.medianAdjacent ltW d i0 0).2 d.size (by omega)
        have l3 := adjacent_lt d k0 (Sort.medianAdjacent ltW d j0 (Sort.medianAdjacent ltW d i0 0).2).2 d.size (by omega)
        refine adjacent_ok (by omega) (by omega) hsz (by omega) hn fun H3 h3 => ?_
        refine adjacent_ok (by omega) (by omega) hsz (by omega) h3 fun H4 h4 => ?_
        refine adjacent_ok (by omega) (by omega) hsz (by omega) h4 fun H5 h5 => ?_
        refine median_ok l1.1 l2.1 l3.1 hsz (by omega) h5 fun H6 h6 => ?_
        exact hR _ _ ⟨_, rfl, rfl, h6⟩
      · have e50 : decide (((b - a : Nat) : Int) ≥ 50) = false := by simp; omega
        simp only [if_neg h50] at hR
        simp only [e50, RS, List.cons_append, List.nil_append, Option.isNone_some, Option.isNone_none, Option.isSome_some, Option.isSome_none, Nat.zero_add, Nat.add_zero, Nat.reduceAdd, List.getElem?_cons_zero, List.getElem?_cons_succ, List.length_cons, List.length_nil, List.all_cons, List.all_nil, Bool.and_self, Bool.and_true, Bool.true_and, Option.bind_some, Nat.reduceLeDiff, Nat.reduceEqDiff, Nat.le_refl, and_self, if_true, if_false, List.drop_zero, List.drop_succ_cons, List.take_zero, List.take_succ_cons, List.take_nil, List.drop_nil, true_and, and_true, decide_true, decide_false, Nat.reduceMul, Nat.zero_mul, Nat.one_mul, Nat.mul_one]
        refine median_ok (by omega) (by omega) (by omega) hsz (by omega) hn fun H6 h6 => ?_
        exact hR _ _ ⟨_, rfl, rfl, h6⟩
    · have e8 : decide (((b - a : Nat) : Int) ≥ 8) = false := by simp; omega
      simp only [e8, cnd_false]
      simp only [if_neg h8] at hR
      exact hR _ _ ⟨_, rfl, rfl, hn⟩
end Go.Proofs.Ytiolnpeniklhiaa
