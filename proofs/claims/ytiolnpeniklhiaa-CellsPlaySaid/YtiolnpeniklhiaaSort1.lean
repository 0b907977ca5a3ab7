/- slices.SortFunc over words, its parts (1): the comparison, insertion sort, heap sort.
   Conditions: what stands in memory, as each states it. -/
import Derived.Test.YtiolnpeniklhiaaRefCells
import Derived.Test.YtiolnpeniklhiaaSh2
import Derived.Sort.AssemblyPlain
namespace Go.Proofs.Ytiolnpeniklhiaa
open Go Go.Ab
set_option linter.all false
set_option maxRecDepth 100000

abbrev WA := Array (Int × Int)
def ltW (x y : Int × Int) : Bool := decide (x.1 < y.1)
def cmpI (x y : Int) : Int := if x < y then -1 else if x > y then 1 else 0
theorem cmpI_lt (x y : Int × Int) : decide (cmpI x.1 y.1 < 0) = ltW x y := by
  unfold cmpI ltW
  by_cases h : x.1 < y.1
  · simp [h]
  · by_cases h2 : x.1 > y.1 <;> simp [h, h2]
abbrev aggW (p : Int × Int) : Value := .agg ⟨rowW p⟩
theorem isNaN_ok {x : Int} {H : AH} {K : KV} (hK : K (.bool false) H) : DS Try.prog Fi.cmp_isNaN_api_Addr [.int .u32 x] H K := by
  refine use_cmp_isNaN_api_Addr 0 ?_
  unfold sh_cmp_isNaN_api_Addr
  simp only [RS, List.cons_append, List.nil_append, Option.isNone_some, Option.isNone_none, Option.isSome_some, Option.isSome_none, Nat.zero_add, Nat.add_zero, Nat.reduceAdd, List.getElem?_cons_zero, List.getElem?_cons_succ, List.length_cons, List.length_nil, List.all_cons, List.all_nil, Bool.and_self, Bool.and_true, Bool.true_and, Option.bind_some, Nat.reduceLeDiff, Nat.reduceEqDiff, Nat.le_refl, and_self, if_true, if_false, List.drop_zero, List.drop_succ_cons, List.take_zero, List.take_succ_cons, List.take_nil, List.drop_nil, true_and, and_true, decide_true, decide_false, Nat.reduceMul, Nat.zero_mul, Nat.one_mul, Nat.mul_one, bne_self_eq_false]; exact hK
theorem Compare_ok {x y : Int} {H : AH} {K : KV} (hK : K (.int .i64 (cmpI x y)) H) : DS Try.prog Fi.cmp_Compare_api_Addr [.int .u32 x, .int .u32 y] H K := by
  refine use_cmp_Compare_api_Addr 0 ?_
  unfold sh_cmp_Compare_api_Addr
  simp only [callV_fv, List.nil_append, List.append_nil]
  refine isNaN_ok (isNaN_ok ?_)
  simp only [RS, List.cons_append, List.nil_append, Option.isNone_some, Option.isNone_none, Option.isSome_some, Option.isSome_none, Nat.zero_add, Nat.add_zero, Nat.reduceAdd, List.getElem?_cons_zero, List.getElem?_cons_succ, List.length_cons, List.length_nil, List.all_cons, List.all_nil, Bool.and_self, Bool.and_true, Bool.true_and, Option.bind_some, Nat.reduceLeDiff, Nat.reduceEqDiff, Nat.le_refl, and_self, if_true, if_false, List.drop_zero, List.drop_succ_cons, List.take_zero, List.take_succ_cons, List.take_nil, List.drop_nil, true_and, and_true, decide_true, decide_false, Nat.reduceMul, Nat.zero_mul, Nat.one_mul, Nat.mul_one]
  unfold cmpI at hK
  by_cases h : x < y
  · have e : decide (x < y) = true := by simpa using h
    simp only [e, RS, List.cons_append, List.nil_append, Option.isNone_some, Option.isNone_none, Option.isSome_some, Option.isSome_none, Nat.zero_add, Nat.add_zero, Nat.reduceAdd, List.getElem?_cons_zero, List.getElem?_cons_succ, List.length_cons, List.length_nil, List.all_cons, List.all_nil, Bool.and_self, Bool.and_true, Bool.true_and, Option.bind_some, Nat.reduceLeDiff, Nat.reduceEqDiff, Nat.le_refl, and_self, if_true, if_false, List.drop_zero, List.drop_succ_cons, List.take_zero, List.take_succ_cons, List.take_nil, List.drop_nil, true_and, and_true, decide_true, decide_false, Nat.reduceMul, Nat.zero_mul, Nat.one_mul, Nat.mul_one]; rw [if_pos h] at hK; exact hK
  · have e : decide (x < y) = false := by simpa using h
    rw [if_neg h] at hK
    simp only [e, RS, List.cons_append, List.nil_append, Option.isNone_some, Option.isNone_none, Option.isSome_some, Option.isSome_none, Nat.zero_add, Nat.add_zero, Nat.reduceAdd, List.getElem?_cons_zero, List.getElem?_cons_succ, List.length_cons, List.length_nil, List.all_cons, List.all_nil, Bool.and_self, Bool.and_true, Bool.true_and, Option.bind_some, Nat.reduceLeDiff, Nat.reduceEqDiff, Nat.le_refl, and_self, if_true, if_false, List.drop_zero, List.drop_succ_cons, List.take_zero, List.take_succ_cons, List.take_nil, List.drop_nil, true_and, and_true, decide_true, decide_false, Nat.reduceMul, Nat.zero_mul, Nat.one_mul, Nat.mul_one]
    by_cases h2 : x > y
    · have e2 : decide (x > y) = true := by simpa using h2
      simp only [e2, RS, List.cons_append, List.nil_append, Option.isNone_some, Option.isNone_none, Option.isSome_some, Option.isSome_none, Nat.zero_add, Nat.add_zero, Nat.reduceAdd, List.getElem?_cons_zero, List.getElem?_cons_succ, List.length_cons, List.length_nil, List.all_cons, List.all_nil, Bool.and_self, Bool.and_true, Bool.true_and, Option.bind_some, Nat.reduceLeDiff, Nat.reduceEqDiff, Nat.le_refl, and_self, if_true, if_false, List.drop_zero, List.drop_succ_cons, List.take_zero, List.take_succ_cons, List.take_nil, List.drop_nil, true_and, and_true, decide_true, decide_false, Nat.reduceMul, Nat.zero_mul, Nat.one_mul, Nat.mul_one]; rw [if_pos h2] at hK; exact hK
    · have e2 : decide (x > y) = false := by simpa using h2
      simp only [e2, RS, List.cons_append, List.nil_append, Option.isNone_some, Option.isNone_none, Option.isSome_some, Option.isSome_none, Nat.zero_add, Nat.add_zero, Nat.reduceAdd, List.getElem?_cons_zero, List.getElem?_cons_succ, List.length_cons, List.length_nil, List.all_cons, List.all_nil, Bool.and_self, Bool.and_true, Bool.true_and, Option.bind_some, Nat.reduceLeDiff, Nat.reduceEqDiff, Nat.le_refl, and_self, if_true, if_false, List.drop_zero, List.drop_succ_cons, List.take_zero, List.take_succ_cons, List.take_nil, List.drop_nil, true_and, and_true, decide_true, decide_false, Nat.reduceMul, Nat.zero_mul, Nat.one_mul, Nat.mul_one]; rw [if_neg h2] at hK; exact hK
abbrev cmpF : Value := fv Fi.cells_Cells_Words_1
theorem cmp_ok {x y : Int × Int} {H : AH} {K : KV} {F : SL} (hs : sat H F) (hK : ∀ H', sat H' F → K (.int .i64 (cmpI x.1 y.1)) H') : DS Try.prog Fi.cells_Cells_Words_1 [aggW x, aggW y] H K := by
  refine use_cells_Cells_Words_1 0 ?_
  unfold sh_cells_Cells_Words_1
  have h2 := sat_new (.cells [.int .u32 y.1, .int .u64 y.2] Ty.cells_Word .fix) (sat_new (.cells [.int .u32 x.1, .int .u64 x.2] Ty.cells_Word .fix) hs)
  have hne : H.nx ≠ H.nx + 1 := by omega
  simp only [RS, List.cons_append, List.nil_append, Option.isNone_some, Option.isNone_none, Option.isSome_some, Option.isSome_none, Nat.zero_add, Nat.add_zero, Nat.reduceAdd, List.getElem?_cons_zero, List.getElem?_cons_succ, List.length_cons, List.length_nil, List.all_cons, List.all_nil, Bool.and_self, Bool.and_true, Bool.true_and, Option.bind_some, Nat.reduceLeDiff, Nat.reduceEqDiff, Nat.le_refl, and_self, if_true, if_false, List.drop_zero, List.drop_succ_cons, List.take_zero, List.take_succ_cons, List.take_nil, List.drop_nil, true_and, and_true, decide_true, decide_false, Nat.reduceMul, Nat.zero_mul, Nat.one_mul, Nat.mul_one, rowW, get_put_eq, get_put_ne, get_new_eq, get_new_ne, ne_eq, hne, hne.symm, not_false_eq_true]
  exact Compare_ok (hK _ (sat_sub (sat_sub h2)))

/-! ### rows of words -/
def flatD (d : WA) : List Value := flatW d.toList
abbrev wobj (d : WA) : AObj := .cells (flatD d) Ty.cells_Word .fix
theorem flatD_len (d : WA) : (flatD d).length = d.size * 2 := by simp [flatD, flatW_len]
theorem get_bang {d : WA} {i : Nat} (h : i < d.size) : d.toList[i]? = some d[i]! := by
  simp [h]
theorem ldw {d : WA} {i : Nat} (h : i < d.size) (T : TypeId) (k : CK) : cellsO 2 (i * 2) (some (.cells (flatD d) T k)) = some (aggW d[i]!) := by
  rw [cellsO_cells _ _ _ _ _ (by rw [flatD_len]; omega)]
  unfold flatD
  rw [flatW_cut (get_bang h)]
theorem flatD_set {d : WA} {i : Nat} (p : Int × Int) (h : i < d.size) : splice (flatD d) (i * 2) (rowW p) = flatD (d.setIfInBounds i p) := by
  unfold flatD
  have hl : d.toList.length = d.size := by simp
  have e : (d.setIfInBounds i p).toList = d.toList.take i ++ (p :: d.toList.drop (i + 1)) := by
    simp only [Array.toList_setIfInBounds]
    rw [List.set_eq_take_append_cons_drop, if_pos (by omega)]
  rw [e, flatW_append]
  have e1 : (flatW d.toList).take (i * 2) = flatW (d.toList.take i) := by
    have := flatW_append (d.toList.take i) (d.toList.drop i)
    rw [List.take_append_drop] at this
    rw [this, List.take_append_of_le_length (by rw [flatW_len]; simp; omega), List.take_of_length_le (by rw [flatW_len]; simp; omega)]
  have e2 : (flatW d.toList).drop (i * 2 + 2) = flatW (d.toList.drop (i + 1)) := by
    have := flatW_append (d.toList.take (i + 1)) (d.toList.drop (i + 1))
    rw [List.take_append_drop] at this
    have hlen : (flatW (d.toList.take (i + 1))).length = i * 2 + 2 := by rw [flatW_len]; simp; omega
    rw [this, List.drop_append_of_le_length (by omega), List.drop_eq_nil_of_le (by omega)]; rfl
  unfold splice
  rw [e1, show (rowW p).length = 2 from rfl, e2]
  rfl
theorem stw {d : WA} {i m : Nat} (p : Int × Int) (h : i < d.size) (H : AH) (T : TypeId) : stO 2 m (i * 2) (aggW p) H (some (.cells (flatD d) T .fix)) = some (.tuple ⟨[]⟩, H.put m (.cells (flatD (d.setIfInBounds i p)) T .fix)) := by
  rw [stO_N 2 m (i * 2) (rowW p) H (flatD d) T .fix rfl rfl rfl (by rw [flatD_len]; omega), flatD_set p h]
theorem ixw {m len cap : Nat} {i : Nat} (h : i < len) : ixS 2 (slc m len cap) (.int .i64 (i : Int)) = some (.pointer (some ⟨m, i * 2, none⟩)) := by
  rw [ixS_of 2 m 0 len cap none .i64 i h, Nat.zero_add]
theorem size_set (d : WA) (i : Nat) (p : Int × Int) : (d.setIfInBounds i p).size = d.size := by simp
theorem size_swp (d : WA) (i j : Nat) : (Sort.swp d i j).size = d.size := by simp [Sort.swp]
theorem w64n {a : Int} (h : -9000000000000000000 ≤ a ∧ a ≤ 9000000000000000000) : IntKind.i64.wrap a = a := IntWalk.i64_in _ (by omega)

/-- Insertion sort of a part. -/
theorem insertion_ok {m a b cap : Nat} {d : WA} {H : AH} {K : KV} {F : SL} (hab : a ≤ b) (hb : b ≤ d.size) (hsz : d.size < 1000000) (hs : sat H (pts m (wobj d) * F))
    (hK : ∀ H', sat H' (pts m (wobj (Sort.insertionSort ltW d a b)) * F) → K (.tuple ⟨[]⟩) H') :
    DS Try.prog Fi.slices_insertionSortCmpFunc_cells_Word [slc m d.size cap, .int .i64 (a : Int), .int .i64 (b : Int), cmpF] H K := by
  refine use_slices_insertionSortCmpFunc_cells_Word (d.size + 2) ?_
  unfold sh_slices_insertionSortCmpFunc_cells_Word
  have w0 : IntKind.i64.wrap ((a : Int) + 1) = ((a + 1 : Nat) : Int) := by rw [w64n (by omega)]; omega
  simp only [RS, List.cons_append, List.nil_append, Option.isNone_some, Option.isNone_none, Option.isSome_some, Option.isSome_none, Nat.zero_add, Nat.add_zero, Nat.reduceAdd, List.getElem?_cons_zero, List.getElem?_cons_succ, List.length_cons, List.length_nil, List.all_cons, List.all_nil, Bool.and_self, Bool.and_true, Bool.true_and, Option.bind_some, Nat.reduceLeDiff, Nat.reduceEqDiff, Nat.le_refl, and_self, if_true, if_false, List.drop_zero, List.drop_succ_cons, List.take_zero, List.take_succ_cons, List.take_nil, List.drop_nil, true_and, and_true, decide_true, decide_false, Nat.reduceMul, Nat.zero_mul, Nat.one_mul, Nat.mul_one, w0]
  unfold Sort.insertionSort at hK
  refine lp_rule (fun n t H => ∃ (i : Nat) (d1 : WA), a + 1 ≤ i ∧ i ≤ b + 1 ∧ b + 1 < n + i ∧ d1.size = d.size ∧ t = (slc m d.size cap, .int .i64 (a : Int), .int .i64 (b : Int), cmpF, .int .i64 (i : Int), ()) ∧
    Sort.insOuter ltW a b i d1 = Sort.insOuter ltW a b (a + 1) d ∧ sat H (pts m (wobj d1) * F)) ?_ ?_ ⟨a + 1, d, by omega, by omega, by omega, rfl, rfl, rfl, hs⟩
  · rintro n t H ⟨i, d1, ha, hi, hn, hd1, rfl, heq, h1⟩ R hR
    simp only [RS, List.cons_append, List.nil_append, Option.isNone_some, Option.isNone_none, Option.isSome_some, Option.isSome_none, Nat.zero_add, Nat.add_zero, Nat.reduceAdd, List.getElem?_cons_zero, List.getElem?_cons_succ, List.length_cons, List.length_nil, List.all_cons, List.all_nil, Bool.and_self, Bool.and_true, Bool.true_and, Option.bind_some, Nat.reduceLeDiff, Nat.reduceEqDiff, Nat.le_refl, and_self, if_true, if_false, List.drop_zero, List.drop_succ_cons, List.take_zero, List.take_succ_cons, List.take_nil, List.drop_nil, true_and, and_true, decide_true, decide_false, Nat.reduceMul, Nat.zero_mul, Nat.one_mul, Nat.mul_one]
    by_cases hib : i < b
    · have e : decide ((i : Int) < (b : Int)) = true := by simpa using hib
      simp only [e, RS, List.cons_append, List.nil_append, Option.isNone_some, Option.isNone_none, Option.isSome_some, Option.isSome_none, Nat.zero_add, Nat.add_zero, Nat.reduceAdd, List.getElem?_cons_zero, List.getElem?_cons_succ, List.length_cons, List.length_nil, List.all_cons, List.all_nil, Bool.and_self, Bool.and_true, Bool.true_and, Option.bind_some, Nat.reduceLeDiff, Nat.reduceEqDiff, Nat.le_refl, and_self, if_true, if_false, List.drop_zero, List.drop_succ_cons, List.take_zero, List.take_succ_cons, List.take_nil, List.drop_nil, true_and, and_true, decide_true, decide_false, Nat.reduceMul, Nat.zero_mul, Nat.one_mul, Nat.mul_one]
      rw [Sort.insOuter, if_pos hib] at heq
      refine lp_rule (fun n t H => ∃ (j : Nat) (d2 : WA), a ≤ j ∧ j ≤ i ∧ j < n + a ∧ d2.size = d.size ∧ t = (slc m d.size cap, .int .i64 (a : Int), .int .i64 (b : Int), cmpF, .int .i64 (i : Int), .int .i64 (j : Int), ()) ∧
        Sort.insInner ltW a j d2 = Sort.insInner ltW a i d1 ∧ sat H (pts m (wobj d2) * F)) ?_ ?_ ⟨i, d1, by omega, by omega, by omega, hd1, rfl, rfl, h1⟩
      · rintro n2 t H2 ⟨j, d2, hj1, hj2, hn2, hd2, rfl, heq2, h2⟩ R2 hR2
        have w1 : IntKind.i64.wrap ((i : Int) + 1) = ((i + 1 : Nat) : Int) := by rw [w64n (by omega)]; omega
        simp only [RS, List.cons_append, List.nil_append, Option.isNone_some, Option.isNone_none, Option.isSome_some, Option.isSome_none, Nat.zero_add, Nat.add_zero, Nat.reduceAdd, List.getElem?_cons_zero, List.getElem?_cons_succ, List.length_cons, List.length_nil, List.all_cons, List.all_nil, Bool.and_self, Bool.and_true, Bool.true_and, Option.bind_some, Nat.reduceLeDiff, Nat.reduceEqDiff, Nat.le_refl, and_self, if_true, if_false, List.drop_zero, List.drop_succ_cons, List.take_zero, List.take_succ_cons, List.take_nil, List.drop_nil, true_and, and_true, decide_true, decide_false, Nat.reduceMul, Nat.zero_mul, Nat.one_mul, Nat.mul_one, w1]
        by_cases hja : j > a
        · obtain ⟨j', rfl⟩ : ∃ j', j = j' + 1 := ⟨j - 1, by omega⟩
          have e1 : decide (((j' + 1 : Nat) : Int) > (a : Int)) = true := by simp; omega
          have w2 : IntKind.i64.wrap (((j' + 1 : Nat) : Int) - 1) = (j' : Int) := by rw [w64n (by omega)]; omega
          have g := (sat_get h2).1
          simp only [e1, RS, List.cons_append, List.nil_append, Option.isNone_some, Option.isNone_none, Option.isSome_some, Option.isSome_none, Nat.zero_add, Nat.add_zero, Nat.reduceAdd, List.getElem?_cons_zero, List.getElem?_cons_succ, List.length_cons, List.length_nil, List.all_cons, List.all_nil, Bool.and_self, Bool.and_true, Bool.true_and, Option.bind_some, Nat.reduceLeDiff, Nat.reduceEqDiff, Nat.le_refl, and_self, if_true, if_false, List.drop_zero, List.drop_succ_cons, List.take_zero, List.take_succ_cons, List.take_nil, List.drop_nil, true_and, and_true, decide_true, decide_false, Nat.reduceMul, Nat.zero_mul, Nat.one_mul, Nat.mul_one, w2, ixw (m := m) (cap := cap) (show j' + 1 < d.size by omega), ixw (m := m) (cap := cap) (show j' < d.size by omega), g, ldw (show j' + 1 < d2.size by omega), ldw (show j' < d2.size by omega)]
          refine cmp_ok h2 fun H3 h3 => ?_
          have g3 := (sat_get h3).1
          simp only [RS, List.cons_append, List.nil_append, Option.isNone_some, Option.isNone_none, Option.isSome_some, Option.isSome_none, Nat.zero_add, Nat.add_zero, Nat.reduceAdd, List.getElem?_cons_zero, List.getElem?_cons_succ, List.length_cons, List.length_nil, List.all_cons, List.all_nil, Bool.and_self, Bool.and_true, Bool.true_and, Option.bind_some, Nat.reduceLeDiff, Nat.reduceEqDiff, Nat.le_refl, and_self, if_true, if_false, List.drop_zero, List.drop_succ_cons, List.take_zero, List.take_succ_cons, List.take_nil, List.drop_nil, true_and, and_true, decide_true, decide_false, Nat.reduceMul, Nat.zero_mul, Nat.one_mul, Nat.mul_one, cmpI_lt]
          rw [Sort.insInner] at heq2
          have e2 : decide (j' + 1 > a) = true := by simpa using hja
          rw [e2, Bool.true_and] at heq2
          cases hlt : ltW d2[j' + 1]! d2[j']! with
          | true =>
            rw [hlt, if_pos rfl] at heq2
            simp only [RS, List.cons_append, List.nil_append, Option.isNone_some, Option.isNone_none, Option.isSome_some, Option.isSome_none, Nat.zero_add, Nat.add_zero, Nat.reduceAdd, List.getElem?_cons_zero, List.getElem?_cons_succ, List.length_cons, List.length_nil, List.all_cons, List.all_nil, Bool.and_self, Bool.and_true, Bool.true_and, Option.bind_some, Nat.reduceLeDiff, Nat.reduceEqDiff, Nat.le_refl, and_self, if_true, if_false, List.drop_zero, List.drop_succ_cons, List.take_zero, List.take_succ_cons, List.take_nil, List.drop_nil, true_and, and_true, decide_true, decide_false, Nat.reduceMul, Nat.zero_mul, Nat.one_mul, Nat.mul_one, w2, ixw (m := m) (cap := cap) (show j' + 1 < d.size by omega), ixw (m := m) (cap := cap) (show j' < d.size by omega), g3, ldw (show j' + 1 < d2.size by omega), ldw (show j' < d2.size by omega),
              stw _ (show j' + 1 < d2.size by omega), get_put_eq, stw _ (show j' < (d2.setIfInBounds (j' + 1) d2[j']!).size by rw [size_set]; omega)]
            exact hR2 _ _ ⟨j', Sort.swp d2 (j' + 1) j', by omega, by omega, by omega, by rw [size_swp]; exact hd2, rfl, heq2, sat_put _ (sat_put _ h3)⟩
          | false =>
            rw [hlt, if_neg (by simp)] at heq2
            simp only [RS, List.cons_append, List.nil_append, Option.isNone_some, Option.isNone_none, Option.isSome_some, Option.isSome_none, Nat.zero_add, Nat.add_zero, Nat.reduceAdd, List.getElem?_cons_zero, List.getElem?_cons_succ, List.length_cons, List.length_nil, List.all_cons, List.all_nil, Bool.and_self, Bool.and_true, Bool.true_and, Option.bind_some, Nat.reduceLeDiff, Nat.reduceEqDiff, Nat.le_refl, and_self, if_true, if_false, List.drop_zero, List.drop_succ_cons, List.take_zero, List.take_succ_cons, List.take_nil, List.drop_nil, true_and, and_true, decide_true, decide_false, Nat.reduceMul, Nat.zero_mul, Nat.one_mul, Nat.mul_one, w1]
            exact hR _ _ ⟨i + 1, d2, by omega, by omega, by omega, hd2, rfl, by rw [← heq, ← heq2], h3⟩
        · have e1 : decide ((j : Int) > (a : Int)) = false := by simp; omega
          simp only [e1, RS, List.cons_append, List.nil_append, Option.isNone_some, Option.isNone_none, Option.isSome_some, Option.isSome_none, Nat.zero_add, Nat.add_zero, Nat.reduceAdd, List.getElem?_cons_zero, List.getElem?_cons_succ, List.length_cons, List.length_nil, List.all_cons, List.all_nil, Bool.and_self, Bool.and_true, Bool.true_and, Option.bind_some, Nat.reduceLeDiff, Nat.reduceEqDiff, Nat.le_refl, and_self, if_true, if_false, List.drop_zero, List.drop_succ_cons, List.take_zero, List.take_succ_cons, List.take_nil, List.drop_nil, true_and, and_true, decide_true, decide_false, Nat.reduceMul, Nat.zero_mul, Nat.one_mul, Nat.mul_one, w1]
          refine hR _ _ ⟨i + 1, d2, by omega, by omega, by omega, hd2, rfl, ?_, h2⟩
          rw [← heq, ← heq2]
          cases j with
          | zero => rfl
          | succ j' =>
            rw [Sort.insInner]
            have : decide (j' + 1 > a) = false := by simpa using hja
            rw [this]; rfl
      · rintro t H2 ⟨j, d2, hj1, hj2, hn2, -⟩; omega
    · have e : decide ((i : Int) < (b : Int)) = false := by simpa using hib
      simp only [e, RS, List.cons_append, List.nil_append, Option.isNone_some, Option.isNone_none, Option.isSome_some, Option.isSome_none, Nat.zero_add, Nat.add_zero, Nat.reduceAdd, List.getElem?_cons_zero, List.getElem?_cons_succ, List.length_cons, List.length_nil, List.all_cons, List.all_nil, Bool.and_self, Bool.and_true, Bool.true_and, Option.bind_some, Nat.reduceLeDiff, Nat.reduceEqDiff, Nat.le_refl, and_self, if_true, if_false, List.drop_zero, List.drop_succ_cons, List.take_zero, List.take_succ_cons, List.take_nil, List.drop_nil, true_and, and_true, decide_true, decide_false, Nat.reduceMul, Nat.zero_mul, Nat.one_mul, Nat.mul_one]
      rw [Sort.insOuter, if_neg hib] at heq
      rw [← heq] at hK
      exact hK _ h1
  · rintro t H ⟨i, d1, ha, hi, hn, -⟩; omega
end Go.Proofs.Ytiolnpeniklhiaa
