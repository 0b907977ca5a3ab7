/- slices.SortFunc over words (8): the sort itself.
   Conditions: what stands in memory, as each states it. -/
import Derived.Test.YtiolnpeniklhiaaSort7
namespace Go.Proofs.Ytiolnpeniklhiaa
open Go Go.Ab
set_option linter.all false
set_option maxRecDepth 100000

theorem swoW : Sort.SWO ltW where
  irrefl := by intro x; simp [ltW]
  trans := by intro x y z; simp only [ltW, decide_eq_true_eq]; omega
  ntrans := by intro x y z; simp only [ltW, decide_eq_false_iff_not]; omega
section
variable {m a b pv n cap : Nat} {d : WA} {H : AH} {K : KV} {F : SL}
theorem insertion_n (hn : d.size = n) (hab : a ≤ b) (hb : b ≤ n) (hsz : n < 1000000) (hs : sat H (pts m (wobj d) * F))
    (hK : ∀ H', sat H' (pts m (wobj (Sort.insertionSort ltW d a b)) * F) → K (.tuple ⟨[]⟩) H') :
    DS Try.prog Fi.slices_insertionSortCmpFunc_cells_Word [slc m n cap, .int .i64 (a : Int), .int .i64 (b : Int), cmpF] H K := by
  subst hn; exact insertion_ok hab hb hsz hs hK
theorem heap_n (hn : d.size = n) (hab : a < b) (hb : b ≤ n) (hsz : n < 1000000) (hs : sat H (pts m (wobj d) * F))
    (hK : ∀ H', sat H' (pts m (wobj (Sort.heapSort ltW d a b)) * F) → K (.tuple ⟨[]⟩) H') :
    DS Try.prog Fi.slices_heapSortCmpFunc_cells_Word [slc m n cap, .int .i64 (a : Int), .int .i64 (b : Int), cmpF] H K := by
  subst hn; exact heap_ok hab hb hsz hs hK
theorem reverse_n (hn : d.size = n) (hab : a < b) (hb : b ≤ n) (hsz : n < 1000000) (hs : sat H (pts m (wobj d) * F))
    (hK : ∀ H', sat H' (pts m (wobj (Sort.reverseRange d a b)) * F) → K (.tuple ⟨[]⟩) H') :
    DS Try.prog Fi.slices_reverseRangeCmpFunc_cells_Word [slc m n cap, .int .i64 (a : Int), .int .i64 (b : Int), cmpF] H K := by
  subst hn; exact reverse_ok hab hb hsz hs hK
theorem break_n (hn : d.size = n) (hab : a ≤ b) (hb : b ≤ n) (hsz : n < 1000000) (hs : sat H (pts m (wobj d) * F))
    (hK : ∀ H', sat H' (pts m (wobj (Sort.breakPatterns d a b)) * F) → K (.tuple ⟨[]⟩) H') :
    DS Try.prog Fi.slices_breakPatternsCmpFunc_cells_Word [slc m n cap, .int .i64 (a : Int), .int .i64 (b : Int), cmpF] H K := by
  subst hn; exact break_ok hab hb hsz hs hK
theorem choose_n (hn : d.size = n) (hab : a < b) (hb : b ≤ n) (hsz : n < 1000000) (hs : sat H (pts m (wobj d) * F))
    (hK : ∀ H', sat H' (pts m (wobj d) * F) → K (.tuple ⟨[.int .i64 ((Sort.choosePivot ltW d a b).1 : Int), .int .i64 (hintN (Sort.choosePivot ltW d a b).2)]⟩) H') :
    DS Try.prog Fi.slices_choosePivotCmpFunc_cells_Word [slc m n cap, .int .i64 (a : Int), .int .i64 (b : Int), cmpF] H K := by
  subst hn; exact choose_ok hab hb hsz hs hK
theorem partial_n (hn : d.size = n) (hab : a < b) (hb : b ≤ n) (hsz : n < 1000000) (hs : sat H (pts m (wobj d) * F))
    (hK : ∀ H', sat H' (pts m (wobj (Sort.partialInsertionSort ltW d a b).1) * F) → K (.bool (Sort.partialInsertionSort ltW d a b).2) H') :
    DS Try.prog Fi.slices_partialInsertionSortCmpFunc_cells_Word [slc m n cap, .int .i64 (a : Int), .int .i64 (b : Int), cmpF] H K := by
  subst hn; exact partial_ok hab hb hsz hs hK
theorem partition_n (hn : d.size = n) (hap : a ≤ pv) (hpb : pv < b) (hb : b ≤ n) (hsz : n < 1000000) (hs : sat H (pts m (wobj d) * F))
    (hK : ∀ H', sat H' (pts m (wobj (Sort.partition ltW d a b pv).2.2) * F) → K (.tuple ⟨[.int .i64 ((Sort.partition ltW d a b pv).1 : Int), .bool (Sort.partition ltW d a b pv).2.1]⟩) H') :
    DS Try.prog Fi.slices_partitionCmpFunc_cells_Word [slc m n cap, .int .i64 (a : Int), .int .i64 (b : Int), .int .i64 (pv : Int), cmpF] H K := by
  subst hn; exact partition_ok hap hpb hb hsz hs hK
theorem partEqual_n (hn : d.size = n) (hap : a ≤ pv) (hpb : pv < b) (hb : b ≤ n) (hsz : n < 1000000) (hs : sat H (pts m (wobj d) * F))
    (hK : ∀ H', sat H' (pts m (wobj (Sort.partitionEqual ltW d a b pv).2) * F) → K (.int .i64 ((Sort.partitionEqual ltW d a b pv).1 : Int)) H') :
    DS Try.prog Fi.slices_partitionEqualCmpFunc_cells_Word [slc m n cap, .int .i64 (a : Int), .int .i64 (b : Int), .int .i64 (pv : Int), cmpF] H K := by
  subst hn; exact partEqual_ok hap hpb hb hsz hs hK
end
theorem hintN_2 (h : Sort.Hint) : (hintN h == 2) = decide (h = .decreasing) := by cases h <;> rfl
theorem hintN_1 (h : Sort.Hint) : (hintN h == 1) = decide (h = .increasing) := by cases h <;> rfl

/-- The sort of a part: whatever comes back is a sorted permutation. -/
def PdqAt (m n cap k : Nat) : Prop := ∀ (a b lim : Nat) (d : WA) (H : AH) (K : KV) (F : SL), b - a < k → a ≤ b → b ≤ n → d.size = n → n < 1000000 → lim < 1000 → Sort.Below ltW a b d → sat H (pts m (wobj d) * F) →
  (∀ (R : WA) H', Sort.PermIn a b d R → Sort.SortedIn ltW a b R → sat H' (pts m (wobj R) * F) → K (.tuple ⟨[]⟩) H') →
  DS Try.prog Fi.slices_pdqsortCmpFunc_cells_Word [slc m n cap, .int .i64 (a : Int), .int .i64 (b : Int), .int .i64 (lim : Int), cmpF] H K
theorem pdq_step {m n cap k : Nat} (IH : PdqAt m n cap k) : PdqAt m n cap (k + 1) := by
  intro a b lim d H K F hk hab hb hn hsz hlim hBel hs hK
  refine use_slices_pdqsortCmpFunc_cells_Word (n + 2) ?_
  unfold sh_slices_pdqsortCmpFunc_cells_Word
  refine lp_rule (fun N t H => ∃ (a1 b1 lim1 : Nat) (wb wp : Bool) (D : WA), a ≤ a1 ∧ a1 ≤ b1 ∧ b1 ≤ b ∧ b1 - a1 < N ∧ lim1 < 1000 ∧ D.size = n ∧
    t = (slc m n cap, .int .i64 (a1 : Int), .int .i64 (b1 : Int), .int .i64 (lim1 : Int), cmpF, .bool wb, .bool wp, ()) ∧ Sort.Below ltW a1 b1 D ∧
    (∀ R, Sort.PermIn a1 b1 D R → Sort.SortedIn ltW a1 b1 R → Sort.PermIn a b d R ∧ Sort.SortedIn ltW a b R) ∧ sat H (pts m (wobj D) * F)) ?_ ?_
    ⟨a, b, lim, true, true, d, Nat.le_refl _, hab, Nat.le_refl _, by omega, hlim, hn, rfl, hBel, fun R h1 h2 => ⟨h1, h2⟩, hs⟩
  · rintro N t H1 ⟨a1, b1, lim1, wb, wp, D, ha1, hab1, hb1, hN, hl1, hD, rfl, hB, hG, h1⟩ R2 hR2
    have v3 : IntKind.i64.wrap ((b1 : Int) - (a1 : Int)) = ((b1 - a1 : Nat) : Int) := by rw [w64n (by omega)]; omega
    simp only [RS, List.cons_append, List.nil_append, Option.isNone_some, Option.isNone_none, Option.isSome_some, Option.isSome_none, Nat.zero_add, Nat.add_zero, Nat.reduceAdd, List.getElem?_cons_zero, List.getElem?_cons_succ, List.length_cons, List.length_nil, List.all_cons, List.all_nil, Bool.and_self, Bool.and_true, Bool.true_and, Option.bind_some, Nat.reduceLeDiff, Nat.reduceEqDiff, Nat.le_refl, and_self, if_true, if_false, List.drop_zero, List.drop_succ_cons, List.take_zero, List.take_succ_cons, List.take_nil, List.drop_nil, true_and, and_true, decide_true, decide_false, Nat.reduceMul, Nat.zero_mul, Nat.one_mul, Nat.mul_one, v3]
    by_cases h12 : b1 - a1 ≤ 12
    · have e : decide (((b1 - a1 : Nat) : Int) ≤ 12) = true := by simp only [decide_eq_true_eq]; omega
      simp only [e, RS, List.cons_append, List.nil_append, Option.isNone_some, Option.isNone_none, Option.isSome_some, Option.isSome_none, Nat.zero_add, Nat.add_zero, Nat.reduceAdd, List.getElem?_cons_zero, List.getElem?_cons_succ, List.length_cons, List.length_nil, List.all_cons, List.all_nil, Bool.and_self, Bool.and_true, Bool.true_and, Option.bind_some, Nat.reduceLeDiff, Nat.reduceEqDiff, Nat.le_refl, and_self, if_true, if_false, List.drop_zero, List.drop_succ_cons, List.take_zero, List.take_succ_cons, List.take_nil, List.drop_nil, true_and, and_true, decide_true, decide_false, Nat.reduceMul, Nat.zero_mul, Nat.one_mul, Nat.mul_one]
      refine insertion_n hD hab1 (by omega) hsz h1 fun H2 h2 => ?_
      have q := Sort.insertionSort_holds (lt := ltW) swoW D a1 b1 hab1 (by omega)
      have q2 := hG _ q.1 q.2
      exact hK _ _ q2.1 q2.2 h2
    have e12 : decide (((b1 - a1 : Nat) : Int) ≤ 12) = false := by simp only [decide_eq_false_iff_not]; omega
    simp only [e12, RS, List.cons_append, List.nil_append, Option.isNone_some, Option.isNone_none, Option.isSome_some, Option.isSome_none, Nat.zero_add, Nat.add_zero, Nat.reduceAdd, List.getElem?_cons_zero, List.getElem?_cons_succ, List.length_cons, List.length_nil, List.all_cons, List.all_nil, Bool.and_self, Bool.and_true, Bool.true_and, Option.bind_some, Nat.reduceLeDiff, Nat.reduceEqDiff, Nat.le_refl, and_self, if_true, if_false, List.drop_zero, List.drop_succ_cons, List.take_zero, List.take_succ_cons, List.take_nil, List.drop_nil, true_and, and_true, decide_true, decide_false, Nat.reduceMul, Nat.zero_mul, Nat.one_mul, Nat.mul_one]
    by_cases hl0 : lim1 = 0
    · have e : (((lim1 : Nat) : Int) == 0) = true := by simp [hl0]
      simp only [e, RS, List.cons_append, List.nil_append, Option.isNone_some, Option.isNone_none, Option.isSome_some, Option.isSome_none, Nat.zero_add, Nat.add_zero, Nat.reduceAdd, List.getElem?_cons_zero, List.getElem?_cons_succ, List.length_cons, List.length_nil, List.all_cons, List.all_nil, Bool.and_self, Bool.and_true, Bool.true_and, Option.bind_some, Nat.reduceLeDiff, Nat.reduceEqDiff, Nat.le_refl, and_self, if_true, if_false, List.drop_zero, List.drop_succ_cons, List.take_zero, List.take_succ_cons, List.take_nil, List.drop_nil, true_and, and_true, decide_true, decide_false, Nat.reduceMul, Nat.zero_mul, Nat.one_mul, Nat.mul_one]
      refine heap_n hD (by omega) (by omega) hsz h1 fun H2 h2 => ?_
      have q := Sort.heapSort_holds (lt := ltW) swoW D a1 b1 hab1 (by omega)
      have q2 := hG _ q.1 q.2
      exact hK _ _ q2.1 q2.2 h2
    have el : (((lim1 : Nat) : Int) == 0) = false := by simp; omega
    simp only [el, RS, List.cons_append, List.nil_append, Option.isNone_some, Option.isNone_none, Option.isSome_some, Option.isSome_none, Nat.zero_add, Nat.add_zero, Nat.reduceAdd, List.getElem?_cons_zero, List.getElem?_cons_succ, List.length_cons, List.length_nil, List.all_cons, List.all_nil, Bool.and_self, Bool.and_true, Bool.true_and, Option.bind_some, Nat.reduceLeDiff, Nat.reduceEqDiff, Nat.le_refl, and_self, if_true, if_false, List.drop_zero, List.drop_succ_cons, List.take_zero, List.take_succ_cons, List.take_nil, List.drop_nil, true_and, and_true, decide_true, decide_false, Nat.reduceMul, Nat.zero_mul, Nat.one_mul, Nat.mul_one]
    refine jn_rule (fun t H => ∃ (D1 : WA) (lim2 : Nat), lim2 < 1000 ∧ Sort.PermIn a1 b1 D D1 ∧
      t = (slc m n cap, .int .i64 (a1 : Int), .int .i64 (b1 : Int), .int .i64 (lim2 : Int), cmpF, .bool wb, .bool wp, .int .i64 ((b1 - a1 : Nat) : Int), ()) ∧ sat H (pts m (wobj D1) * F)) ?_ ?_
    · rintro t H2 ⟨D1, lim2, hl2, hP1, rfl, h2⟩
      have hD1 : D1.size = n := by rw [hP1.1]; exact hD
      simp only [RS, List.cons_append, List.nil_append, Option.isNone_some, Option.isNone_none, Option.isSome_some, Option.isSome_none, Nat.zero_add, Nat.add_zero, Nat.reduceAdd, List.getElem?_cons_zero, List.getElem?_cons_succ, List.length_cons, List.length_nil, List.all_cons, List.all_nil, Bool.and_self, Bool.and_true, Bool.true_and, Option.bind_some, Nat.reduceLeDiff, Nat.reduceEqDiff, Nat.le_refl, and_self, if_true, if_false, List.drop_zero, List.drop_succ_cons, List.take_zero, List.take_succ_cons, List.take_nil, List.drop_nil, true_and, and_true, decide_true, decide_false, Nat.reduceMul, Nat.zero_mul, Nat.one_mul, Nat.mul_one]
      refine choose_n hD1 (by omega) (by omega) hsz h2 fun H3 h3 => ?_
      have hc := Sort.choosePivot_holds ltW D1 a1 b1 (by omega)
      revert hc
      generalize Sort.choosePivot ltW D1 a1 b1 = c
      obtain ⟨cp, ch⟩ := c
      intro hc
      simp only [] at hc
      simp only [RS, List.cons_append, List.nil_append, Option.isNone_some, Option.isNone_none, Option.isSome_some, Option.isSome_none, Nat.zero_add, Nat.add_zero, Nat.reduceAdd, List.getElem?_cons_zero, List.getElem?_cons_succ, List.length_cons, List.length_nil, List.all_cons, List.all_nil, Bool.and_self, Bool.and_true, Bool.true_and, Option.bind_some, Nat.reduceLeDiff, Nat.reduceEqDiff, Nat.le_refl, and_self, if_true, if_false, List.drop_zero, List.drop_succ_cons, List.take_zero, List.take_succ_cons, List.take_nil, List.drop_nil, true_and, and_true, decide_true, decide_false, Nat.reduceMul, Nat.zero_mul, Nat.one_mul, Nat.mul_one]
      refine jn_rule (fun t H => ∃ (D2 : WA) (pv : Nat) (h : Sort.Hint), a1 ≤ pv ∧ pv < b1 ∧ Sort.PermIn a1 b1 D D2 ∧
        t = (slc m n cap, .int .i64 (a1 : Int), .int .i64 (b1 : Int), .int .i64 (lim2 : Int), cmpF, .bool wb, .bool wp, .int .i64 ((b1 - a1 : Nat) : Int), .int .i64 (pv : Int), .int .i64 (hintN h), ()) ∧ sat H (pts m (wobj D2) * F)) ?_ ?_
      · rintro t H4 ⟨D2, pv, h, hp1, hp2, hP2, rfl, h4⟩
        have hD2 : D2.size = n := by rw [hP2.1]; exact hD
        have hB2 : Sort.Below ltW a1 b1 D2 := hB.perm (by omega) hP2
        refine jn_rule (fun t H => ∃ (D3 : WA), Sort.PermIn a1 b1 D D3 ∧
          t = (slc m n cap, .int .i64 (a1 : Int), .int .i64 (b1 : Int), .int .i64 (lim2 : Int), cmpF, .bool wb, .bool wp, .int .i64 ((b1 - a1 : Nat) : Int), .int .i64 (pv : Int), ()) ∧ sat H (pts m (wobj D3) * F)) ?_ ?_
        · rintro t H5 ⟨D3, hP3, rfl, h5⟩
          have hD3 : D3.size = n := by rw [hP3.1]; exact hD
          have hB3 : Sort.Below ltW a1 b1 D3 := hB.perm (by omega) hP3
          have hG3 : ∀ R, Sort.PermIn a1 b1 D3 R → Sort.SortedIn ltW a1 b1 R → Sort.PermIn a b d R ∧ Sort.SortedIn ltW a b R := fun R r1 r2 => hG R (Sort.permIn_trans _ _ _ _ _ hP3 r1) r2
          refine jn_rule (fun t H => t = (slc m n cap, .int .i64 (a1 : Int), .int .i64 (b1 : Int), .int .i64 (lim2 : Int), cmpF, .int .i64 ((b1 - a1 : Nat) : Int), .int .i64 (pv : Int), ()) ∧ sat H (pts m (wobj D3) * F)) ?_ ?_
          · rintro t H6 ⟨rfl, h6⟩
            simp only [RS, List.cons_append, List.nil_append, Option.isNone_some, Option.isNone_none, Option.isSome_some, Option.isSome_none, Nat.zero_add, Nat.add_zero, Nat.reduceAdd, List.getElem?_cons_zero, List.getElem?_cons_succ, List.length_cons, List.length_nil, List.all_cons, List.all_nil, Bool.and_self, Bool.and_true, Bool.true_and, Option.bind_some, Nat.reduceLeDiff, Nat.reduceEqDiff, Nat.le_refl, and_self, if_true, if_false, List.drop_zero, List.drop_succ_cons, List.take_zero, List.take_succ_cons, List.take_nil, List.drop_nil, true_and, and_true, decide_true, decide_false, Nat.reduceMul, Nat.zero_mul, Nat.one_mul, Nat.mul_one]
            refine partition_n hD3 hp1 hp2 (by omega) hsz h6 fun H7 h7 => ?_
            have hx : Sort.partition ltW D3 a1 b1 pv = ((Sort.partition ltW D3 a1 b1 pv).1, (Sort.partition ltW D3 a1 b1 pv).2.1, (Sort.partition ltW D3 a1 b1 pv).2.2) := rfl
            revert h7 hx
            generalize (Sort.partition ltW D3 a1 b1 pv).1 = mid
            generalize (Sort.partition ltW D3 a1 b1 pv).2.1 = ap
            generalize (Sort.partition ltW D3 a1 b1 pv).2.2 = D4
            intro h7 hx
            obtain ⟨g1, g2, hs4, hBa, hBr, hleft, hright⟩ := Sort.round_part swoW (Sort.partition_holds (lt := ltW)) hp1 hp2 (by omega) hB3 hx
            have hD4 : D4.size = n := by rw [hs4]; exact hD3
            have u1 : IntKind.i64.wrap ((mid : Int) - (a1 : Int)) = ((mid - a1 : Nat) : Int) := by rw [w64n (by omega)]; omega
            have u2 : IntKind.i64.wrap ((b1 : Int) - (mid : Int)) = ((b1 - mid : Nat) : Int) := by rw [w64n (by omega)]; omega
            have u3 : IntKind.i64.wrap (((b1 - a1 : Nat) : Int).tdiv 8) = (((b1 - a1) / 8 : Nat) : Int) := by rw [Int.tdiv_eq_ediv_of_nonneg (by omega), w64n (by omega)]; omega
            have u4 : IntKind.i64.wrap ((mid : Int) + 1) = ((mid + 1 : Nat) : Int) := by rw [w64n (by omega)]; omega
            simp only [RS, List.cons_append, List.nil_append, Option.isNone_some, Option.isNone_none, Option.isSome_some, Option.isSome_none, Nat.zero_add, Nat.add_zero, Nat.reduceAdd, List.getElem?_cons_zero, List.getElem?_cons_succ, List.length_cons, List.length_nil, List.all_cons, List.all_nil, Bool.and_self, Bool.and_true, Bool.true_and, Option.bind_some, Nat.reduceLeDiff, Nat.reduceEqDiff, Nat.le_refl, and_self, if_true, if_false, List.drop_zero, List.drop_succ_cons, List.take_zero, List.take_succ_cons, List.take_nil, List.drop_nil, true_and, and_true, decide_true, decide_false, Nat.reduceMul, Nat.zero_mul, Nat.one_mul, Nat.mul_one, u1, u2, binT_quo_int _ _ _ _ 8 (by decide), u3]
            by_cases hlt : mid - a1 < b1 - mid
            · have e : decide (((mid - a1 : Nat) : Int) < ((b1 - mid : Nat) : Int)) = true := by simp only [decide_eq_true_eq]; omega
              simp only [e, RS, List.cons_append, List.nil_append, Option.isNone_some, Option.isNone_none, Option.isSome_some, Option.isSome_none, Nat.zero_add, Nat.add_zero, Nat.reduceAdd, List.getElem?_cons_zero, List.getElem?_cons_succ, List.length_cons, List.length_nil, List.all_cons, List.all_nil, Bool.and_self, Bool.and_true, Bool.true_and, Option.bind_some, Nat.reduceLeDiff, Nat.reduceEqDiff, Nat.le_refl, and_self, if_true, if_false, List.drop_zero, List.drop_succ_cons, List.take_zero, List.take_succ_cons, List.take_nil, List.drop_nil, true_and, and_true, decide_true, decide_false, Nat.reduceMul, Nat.zero_mul, Nat.one_mul, Nat.mul_one]
              refine IH a1 mid lim2 D4 H7 _ F (by omega) g1 (by omega) hD4 hsz hl2 hBa h7 fun L H8 l1 l2 h8 => ?_
              obtain ⟨hBL, hfin⟩ := hleft _ l1 l2
              simp only [RS, List.cons_append, List.nil_append, Option.isNone_some, Option.isNone_none, Option.isSome_some, Option.isSome_none, Nat.zero_add, Nat.add_zero, Nat.reduceAdd, List.getElem?_cons_zero, List.getElem?_cons_succ, List.length_cons, List.length_nil, List.all_cons, List.all_nil, Bool.and_self, Bool.and_true, Bool.true_and, Option.bind_some, Nat.reduceLeDiff, Nat.reduceEqDiff, Nat.le_refl, and_self, if_true, if_false, List.drop_zero, List.drop_succ_cons, List.take_zero, List.take_succ_cons, List.take_nil, List.drop_nil, true_and, and_true, decide_true, decide_false, Nat.reduceMul, Nat.zero_mul, Nat.one_mul, Nat.mul_one, u4]
              exact hR2 _ _ ⟨mid + 1, b1, lim2, _, _, L, by omega, by omega, by omega, by omega, hl2, by rw [l1.1]; exact hD4, rfl, hBL, fun R r1 r2 => by
                have := hfin R r1 r2
                exact hG3 R this.1 this.2, h8⟩
            · have e : decide (((mid - a1 : Nat) : Int) < ((b1 - mid : Nat) : Int)) = false := by simp only [decide_eq_false_iff_not]; omega
              simp only [e, RS, List.cons_append, List.nil_append, Option.isNone_some, Option.isNone_none, Option.isSome_some, Option.isSome_none, Nat.zero_add, Nat.add_zero, Nat.reduceAdd, List.getElem?_cons_zero, List.getElem?_cons_succ, List.length_cons, List.length_nil, List.all_cons, List.all_nil, Bool.and_self, Bool.and_true, Bool.true_and, Option.bind_some, Nat.reduceLeDiff, Nat.reduceEqDiff, Nat.le_refl, and_self, if_true, if_false, List.drop_zero, List.drop_succ_cons, List.take_zero, List.take_succ_cons, List.take_nil, List.drop_nil, true_and, and_true, decide_true, decide_false, Nat.reduceMul, Nat.zero_mul, Nat.one_mul, Nat.mul_one, u4]
              refine IH (mid + 1) b1 lim2 D4 H7 _ F (by omega) (by omega) (by omega) hD4 hsz hl2 hBr h7 fun L H8 l1 l2 h8 => ?_
              obtain ⟨hBL, hfin⟩ := hright _ l1 l2
              exact hR2 _ _ ⟨a1, mid, lim2, _, _, L, by omega, by omega, by omega, by omega, hl2, by rw [l1.1]; exact hD4, rfl, hBL, fun R r1 r2 => by
                have := hfin R r1 r2
                exact hG3 R this.1 this.2, h8⟩
          · intro R38 hR38
            refine jn_rule (fun t H => ∃ q : Bool, (q = true → 0 < a1 ∧ ltW D3[a1 - 1]! D3[pv]! = false) ∧
              t = (slc m n cap, .int .i64 (a1 : Int), .int .i64 (b1 : Int), .int .i64 (lim2 : Int), cmpF, .bool wb, .bool wp, .int .i64 ((b1 - a1 : Nat) : Int), .int .i64 (pv : Int), .bool q, ()) ∧ sat H (pts m (wobj D3) * F)) ?_ ?_
            · rintro t H6 ⟨q, hq, rfl, h6⟩
              simp only [RS, List.cons_append, List.nil_append, Option.isNone_some, Option.isNone_none, Option.isSome_some, Option.isSome_none, Nat.zero_add, Nat.add_zero, Nat.reduceAdd, List.getElem?_cons_zero, List.getElem?_cons_succ, List.length_cons, List.length_nil, List.all_cons, List.all_nil, Bool.and_self, Bool.and_true, Bool.true_and, Option.bind_some, Nat.reduceLeDiff, Nat.reduceEqDiff, Nat.le_refl, and_self, if_true, if_false, List.drop_zero, List.drop_succ_cons, List.take_zero, List.take_succ_cons, List.take_nil, List.drop_nil, true_and, and_true, decide_true, decide_false, Nat.reduceMul, Nat.zero_mul, Nat.one_mul, Nat.mul_one]
              cases q with
              | false =>
                simp only [RS, List.cons_append, List.nil_append, Option.isNone_some, Option.isNone_none, Option.isSome_some, Option.isSome_none, Nat.zero_add, Nat.add_zero, Nat.reduceAdd, List.getElem?_cons_zero, List.getElem?_cons_succ, List.length_cons, List.length_nil, List.all_cons, List.all_nil, Bool.and_self, Bool.and_true, Bool.true_and, Option.bind_some, Nat.reduceLeDiff, Nat.reduceEqDiff, Nat.le_refl, and_self, if_true, if_false, List.drop_zero, List.drop_succ_cons, List.take_zero, List.take_succ_cons, List.take_nil, List.drop_nil, true_and, and_true, decide_true, decide_false, Nat.reduceMul, Nat.zero_mul, Nat.one_mul, Nat.mul_one]
                exact hR38 _ _ ⟨rfl, h6⟩
              | true =>
                simp only [RS, List.cons_append, List.nil_append, Option.isNone_some, Option.isNone_none, Option.isSome_some, Option.isSome_none, Nat.zero_add, Nat.add_zero, Nat.reduceAdd, List.getElem?_cons_zero, List.getElem?_cons_succ, List.length_cons, List.length_nil, List.all_cons, List.all_nil, Bool.and_self, Bool.and_true, Bool.true_and, Option.bind_some, Nat.reduceLeDiff, Nat.reduceEqDiff, Nat.le_refl, and_self, if_true, if_false, List.drop_zero, List.drop_succ_cons, List.take_zero, List.take_succ_cons, List.take_nil, List.drop_nil, true_and, and_true, decide_true, decide_false, Nat.reduceMul, Nat.zero_mul, Nat.one_mul, Nat.mul_one]
                obtain ⟨hq1, hq2⟩ := hq rfl
                refine partEqual_n hD3 hp1 hp2 (by omega) hsz h6 fun H7 h7 => ?_
                have hx : Sort.partitionEqual ltW D3 a1 b1 pv = ((Sort.partitionEqual ltW D3 a1 b1 pv).1, (Sort.partitionEqual ltW D3 a1 b1 pv).2) := rfl
                revert h7 hx
                generalize (Sort.partitionEqual ltW D3 a1 b1 pv).1 = mid
                generalize (Sort.partitionEqual ltW D3 a1 b1 pv).2 = D4
                intro h7 hx
                obtain ⟨g1, g2, hs4, hB4, hfin⟩ := Sort.round_eq swoW (Sort.partitionEqual_holds (lt := ltW)) hq1 hp1 hp2 (by omega) hB3 hq2 hx
                exact hR2 _ _ ⟨mid, b1, lim2, wb, wp, D4, by omega, by omega, by omega, by omega, hl2, by rw [hs4]; exact hD3, rfl, hB4, fun R r1 r2 => by
                  have := hfin R r1 r2
                  exact hG3 R this.1 this.2, h7⟩
            · intro R43 hR43
              simp only [RS, List.cons_append, List.nil_append, Option.isNone_some, Option.isNone_none, Option.isSome_some, Option.isSome_none, Nat.zero_add, Nat.add_zero, Nat.reduceAdd, List.getElem?_cons_zero, List.getElem?_cons_succ, List.length_cons, List.length_nil, List.all_cons, List.all_nil, Bool.and_self, Bool.and_true, Bool.true_and, Option.bind_some, Nat.reduceLeDiff, Nat.reduceEqDiff, Nat.le_refl, and_self, if_true, if_false, List.drop_zero, List.drop_succ_cons, List.take_zero, List.take_succ_cons, List.take_nil, List.drop_nil, true_and, and_true, decide_true, decide_false, Nat.reduceMul, Nat.zero_mul, Nat.one_mul, Nat.mul_one]
              by_cases ha0 : a1 > 0
              · have e : decide ((a1 : Int) > 0) = true := by simp only [decide_eq_true_eq]; omega
                have u1 : IntKind.i64.wrap ((a1 : Int) - 1) = ((a1 - 1 : Nat) : Int) := by rw [w64n (by omega)]; omega
                have g5 := (sat_get h5).1
                have ix1 := ixw (m := m) (cap := cap) (show a1 - 1 < n by omega)
                have ix2 := ixw (m := m) (cap := cap) (show pv < n by omega)
                simp only [e, RS, List.cons_append, List.nil_append, Option.isNone_some, Option.isNone_none, Option.isSome_some, Option.isSome_none, Nat.zero_add, Nat.add_zero, Nat.reduceAdd, List.getElem?_cons_zero, List.getElem?_cons_succ, List.length_cons, List.length_nil, List.all_cons, List.all_nil, Bool.and_self, Bool.and_true, Bool.true_and, Option.bind_some, Nat.reduceLeDiff, Nat.reduceEqDiff, Nat.le_refl, and_self, if_true, if_false, List.drop_zero, List.drop_succ_cons, List.take_zero, List.take_succ_cons, List.take_nil, List.drop_nil, true_and, and_true, decide_true, decide_false, Nat.reduceMul, Nat.zero_mul, Nat.one_mul, Nat.mul_one, u1, ix1, ix2, g5, ldw (show a1 - 1 < D3.size by omega), ldw (show pv < D3.size by omega)]
                refine cmp_ok h5 fun H6 h6 => ?_
                simp only [RS, List.cons_append, List.nil_append, Option.isNone_some, Option.isNone_none, Option.isSome_some, Option.isSome_none, Nat.zero_add, Nat.add_zero, Nat.reduceAdd, List.getElem?_cons_zero, List.getElem?_cons_succ, List.length_cons, List.length_nil, List.all_cons, List.all_nil, Bool.and_self, Bool.and_true, Bool.true_and, Option.bind_some, Nat.reduceLeDiff, Nat.reduceEqDiff, Nat.le_refl, and_self, if_true, if_false, List.drop_zero, List.drop_succ_cons, List.take_zero, List.take_succ_cons, List.take_nil, List.drop_nil, true_and, and_true, decide_true, decide_false, Nat.reduceMul, Nat.zero_mul, Nat.one_mul, Nat.mul_one, cmpI_lt]
                exact hR43 _ _ ⟨_, fun hq => ⟨ha0, by simpa using hq⟩, rfl, h6⟩
              · have e : decide ((a1 : Int) > 0) = false := by simp only [decide_eq_false_iff_not]; omega
                simp only [e, RS, List.cons_append, List.nil_append, Option.isNone_some, Option.isNone_none, Option.isSome_some, Option.isSome_none, Nat.zero_add, Nat.add_zero, Nat.reduceAdd, List.getElem?_cons_zero, List.getElem?_cons_succ, List.length_cons, List.length_nil, List.all_cons, List.all_nil, Bool.and_self, Bool.and_true, Bool.true_and, Option.bind_some, Nat.reduceLeDiff, Nat.reduceEqDiff, Nat.le_refl, and_self, if_true, if_false, List.drop_zero, List.drop_succ_cons, List.take_zero, List.take_succ_cons, List.take_nil, List.drop_nil, true_and, and_true, decide_true, decide_false, Nat.reduceMul, Nat.zero_mul, Nat.one_mul, Nat.mul_one]
                exact hR43 _ _ ⟨false, (fun hq => by cases hq), rfl, h5⟩
        · intro R54 hR54
          have done : ∀ H', sat H' (pts m (wobj D2) * F) → R54 (slc m n cap, .int .i64 (a1 : Int), .int .i64 (b1 : Int), .int .i64 (lim2 : Int), cmpF, .bool wb, .bool wp, .int .i64 ((b1 - a1 : Nat) : Int), .int .i64 (pv : Int), ()) H' :=
            fun H' h' => hR54 _ _ ⟨D2, hP2, rfl, h'⟩
          cases wb with
          | false =>
            simp only [RS, List.cons_append, List.nil_append, Option.isNone_some, Option.isNone_none, Option.isSome_some, Option.isSome_none, Nat.zero_add, Nat.add_zero, Nat.reduceAdd, List.getElem?_cons_zero, List.getElem?_cons_succ, List.length_cons, List.length_nil, List.all_cons, List.all_nil, Bool.and_self, Bool.and_true, Bool.true_and, Option.bind_some, Nat.reduceLeDiff, Nat.reduceEqDiff, Nat.le_refl, and_self, if_true, if_false, List.drop_zero, List.drop_succ_cons, List.take_zero, List.take_succ_cons, List.take_nil, List.drop_nil, true_and, and_true, decide_true, decide_false, Nat.reduceMul, Nat.zero_mul, Nat.one_mul, Nat.mul_one]
            exact done _ h4
          | true =>
            cases wp with
            | false =>
              simp only [RS, List.cons_append, List.nil_append, Option.isNone_some, Option.isNone_none, Option.isSome_some, Option.isSome_none, Nat.zero_add, Nat.add_zero, Nat.reduceAdd, List.getElem?_cons_zero, List.getElem?_cons_succ, List.length_cons, List.length_nil, List.all_cons, List.all_nil, Bool.and_self, Bool.and_true, Bool.true_and, Option.bind_some, Nat.reduceLeDiff, Nat.reduceEqDiff, Nat.le_refl, and_self, if_true, if_false, List.drop_zero, List.drop_succ_cons, List.take_zero, List.take_succ_cons, List.take_nil, List.drop_nil, true_and, and_true, decide_true, decide_false, Nat.reduceMul, Nat.zero_mul, Nat.one_mul, Nat.mul_one]
              exact done _ h4
            | true =>
              simp only [RS, List.cons_append, List.nil_append, Option.isNone_some, Option.isNone_none, Option.isSome_some, Option.isSome_none, Nat.zero_add, Nat.add_zero, Nat.reduceAdd, List.getElem?_cons_zero, List.getElem?_cons_succ, List.length_cons, List.length_nil, List.all_cons, List.all_nil, Bool.and_self, Bool.and_true, Bool.true_and, Option.bind_some, Nat.reduceLeDiff, Nat.reduceEqDiff, Nat.le_refl, and_self, if_true, if_false, List.drop_zero, List.drop_succ_cons, List.take_zero, List.take_succ_cons, List.take_nil, List.drop_nil, true_and, and_true, decide_true, decide_false, Nat.reduceMul, Nat.zero_mul, Nat.one_mul, Nat.mul_one, hintN_1]
              by_cases hh : h = .increasing
              · have e : decide (h = Sort.Hint.increasing) = true := by simpa using hh
                simp only [e, RS, List.cons_append, List.nil_append, Option.isNone_some, Option.isNone_none, Option.isSome_some, Option.isSome_none, Nat.zero_add, Nat.add_zero, Nat.reduceAdd, List.getElem?_cons_zero, List.getElem?_cons_succ, List.length_cons, List.length_nil, List.all_cons, List.all_nil, Bool.and_self, Bool.and_true, Bool.true_and, Option.bind_some, Nat.reduceLeDiff, Nat.reduceEqDiff, Nat.le_refl, and_self, if_true, if_false, List.drop_zero, List.drop_succ_cons, List.take_zero, List.take_succ_cons, List.take_nil, List.drop_nil, true_and, and_true, decide_true, decide_false, Nat.reduceMul, Nat.zero_mul, Nat.one_mul, Nat.mul_one]
                refine partial_n hD2 (by omega) (by omega) hsz h4 fun H5 h5 => ?_
                have q := Sort.partialInsertionSort_holds (lt := ltW) swoW D2 a1 b1 (by omega) (by omega) hB2
                revert q h5
                generalize Sort.partialInsertionSort ltW D2 a1 b1 = pi
                obtain ⟨P, pb⟩ := pi
                intro h5 q
                simp only [] at q h5
                cases pb with
                | true =>
                  simp only [RS, List.cons_append, List.nil_append, Option.isNone_some, Option.isNone_none, Option.isSome_some, Option.isSome_none, Nat.zero_add, Nat.add_zero, Nat.reduceAdd, List.getElem?_cons_zero, List.getElem?_cons_succ, List.length_cons, List.length_nil, List.all_cons, List.all_nil, Bool.and_self, Bool.and_true, Bool.true_and, Option.bind_some, Nat.reduceLeDiff, Nat.reduceEqDiff, Nat.le_refl, and_self, if_true, if_false, List.drop_zero, List.drop_succ_cons, List.take_zero, List.take_succ_cons, List.take_nil, List.drop_nil, true_and, and_true, decide_true, decide_false, Nat.reduceMul, Nat.zero_mul, Nat.one_mul, Nat.mul_one]
                  have q2 := hG _ (Sort.permIn_trans _ _ _ _ _ hP2 q.1) (q.2 rfl)
                  exact hK _ _ q2.1 q2.2 h5
                | false =>
                  simp only [RS, List.cons_append, List.nil_append, Option.isNone_some, Option.isNone_none, Option.isSome_some, Option.isSome_none, Nat.zero_add, Nat.add_zero, Nat.reduceAdd, List.getElem?_cons_zero, List.getElem?_cons_succ, List.length_cons, List.length_nil, List.all_cons, List.all_nil, Bool.and_self, Bool.and_true, Bool.true_and, Option.bind_some, Nat.reduceLeDiff, Nat.reduceEqDiff, Nat.le_refl, and_self, if_true, if_false, List.drop_zero, List.drop_succ_cons, List.take_zero, List.take_succ_cons, List.take_nil, List.drop_nil, true_and, and_true, decide_true, decide_false, Nat.reduceMul, Nat.zero_mul, Nat.one_mul, Nat.mul_one]
                  exact hR54 _ _ ⟨P, Sort.permIn_trans _ _ _ _ _ hP2 q.1, rfl, h5⟩
              · have e : decide (h = Sort.Hint.increasing) = false := by simpa using hh
                simp only [e, RS, List.cons_append, List.nil_append, Option.isNone_some, Option.isNone_none, Option.isSome_some, Option.isSome_none, Nat.zero_add, Nat.add_zero, Nat.reduceAdd, List.getElem?_cons_zero, List.getElem?_cons_succ, List.length_cons, List.length_nil, List.all_cons, List.all_nil, Bool.and_self, Bool.and_true, Bool.true_and, Option.bind_some, Nat.reduceLeDiff, Nat.reduceEqDiff, Nat.le_refl, and_self, if_true, if_false, List.drop_zero, List.drop_succ_cons, List.take_zero, List.take_succ_cons, List.take_nil, List.drop_nil, true_and, and_true, decide_true, decide_false, Nat.reduceMul, Nat.zero_mul, Nat.one_mul, Nat.mul_one]
                exact done _ h4
      · intro R69 hR69
        simp only [RS, List.cons_append, List.nil_append, Option.isNone_some, Option.isNone_none, Option.isSome_some, Option.isSome_none, Nat.zero_add, Nat.add_zero, Nat.reduceAdd, List.getElem?_cons_zero, List.getElem?_cons_succ, List.length_cons, List.length_nil, List.all_cons, List.all_nil, Bool.and_self, Bool.and_true, Bool.true_and, Option.bind_some, Nat.reduceLeDiff, Nat.reduceEqDiff, Nat.le_refl, and_self, if_true, if_false, List.drop_zero, List.drop_succ_cons, List.take_zero, List.take_succ_cons, List.take_nil, List.drop_nil, true_and, and_true, decide_true, decide_false, Nat.reduceMul, Nat.zero_mul, Nat.one_mul, Nat.mul_one, hintN_2]
        by_cases hh : ch = .decreasing
        · have e : decide (ch = Sort.Hint.decreasing) = true := by simpa using hh
          have u1 : IntKind.i64.wrap ((b1 : Int) - 1) = ((b1 - 1 : Nat) : Int) := by rw [w64n (by omega)]; omega
          have u2 : IntKind.i64.wrap ((cp : Int) - (a1 : Int)) = ((cp - a1 : Nat) : Int) := by rw [w64n (by omega)]; omega
          have u3 : IntKind.i64.wrap (((b1 - 1 : Nat) : Int) - ((cp - a1 : Nat) : Int)) = ((b1 - 1 - (cp - a1) : Nat) : Int) := by rw [w64n (by omega)]; omega
          simp only [e, RS, List.cons_append, List.nil_append, Option.isNone_some, Option.isNone_none, Option.isSome_some, Option.isSome_none, Nat.zero_add, Nat.add_zero, Nat.reduceAdd, List.getElem?_cons_zero, List.getElem?_cons_succ, List.length_cons, List.length_nil, List.all_cons, List.all_nil, Bool.and_self, Bool.and_true, Bool.true_and, Option.bind_some, Nat.reduceLeDiff, Nat.reduceEqDiff, Nat.le_refl, and_self, if_true, if_false, List.drop_zero, List.drop_succ_cons, List.take_zero, List.take_succ_cons, List.take_nil, List.drop_nil, true_and, and_true, decide_true, decide_false, Nat.reduceMul, Nat.zero_mul, Nat.one_mul, Nat.mul_one]
          refine reverse_n hD1 (by omega) (by omega) hsz h3 fun H4 h4 => ?_
          have q := Sort.reverseRange_holds D1 a1 b1 hab1 (by omega)
          simp only [RS, List.cons_append, List.nil_append, Option.isNone_some, Option.isNone_none, Option.isSome_some, Option.isSome_none, Nat.zero_add, Nat.add_zero, Nat.reduceAdd, List.getElem?_cons_zero, List.getElem?_cons_succ, List.length_cons, List.length_nil, List.all_cons, List.all_nil, Bool.and_self, Bool.and_true, Bool.true_and, Option.bind_some, Nat.reduceLeDiff, Nat.reduceEqDiff, Nat.le_refl, and_self, if_true, if_false, List.drop_zero, List.drop_succ_cons, List.take_zero, List.take_succ_cons, List.take_nil, List.drop_nil, true_and, and_true, decide_true, decide_false, Nat.reduceMul, Nat.zero_mul, Nat.one_mul, Nat.mul_one, u1, u2, u3]
          exact hR69 _ _ ⟨_, b1 - 1 - (cp - a1), .increasing, by omega, by omega, Sort.permIn_trans _ _ _ _ _ hP1 q, rfl, h4⟩
        · have e : decide (ch = Sort.Hint.decreasing) = false := by simpa using hh
          simp only [e, RS, List.cons_append, List.nil_append, Option.isNone_some, Option.isNone_none, Option.isSome_some, Option.isSome_none, Nat.zero_add, Nat.add_zero, Nat.reduceAdd, List.getElem?_cons_zero, List.getElem?_cons_succ, List.length_cons, List.length_nil, List.all_cons, List.all_nil, Bool.and_self, Bool.and_true, Bool.true_and, Option.bind_some, Nat.reduceLeDiff, Nat.reduceEqDiff, Nat.le_refl, and_self, if_true, if_false, List.drop_zero, List.drop_succ_cons, List.take_zero, List.take_succ_cons, List.take_nil, List.drop_nil, true_and, and_true, decide_true, decide_false, Nat.reduceMul, Nat.zero_mul, Nat.one_mul, Nat.mul_one]
          exact hR69 _ _ ⟨D1, cp, ch, hc.1, hc.2, hP1, rfl, h3⟩
    · intro R76 hR76
      cases wb with
      | true =>
        simp only [RS, List.cons_append, List.nil_append, Option.isNone_some, Option.isNone_none, Option.isSome_some, Option.isSome_none, Nat.zero_add, Nat.add_zero, Nat.reduceAdd, List.getElem?_cons_zero, List.getElem?_cons_succ, List.length_cons, List.length_nil, List.all_cons, List.all_nil, Bool.and_self, Bool.and_true, Bool.true_and, Option.bind_some, Nat.reduceLeDiff, Nat.reduceEqDiff, Nat.le_refl, and_self, if_true, if_false, List.drop_zero, List.drop_succ_cons, List.take_zero, List.take_succ_cons, List.take_nil, List.drop_nil, true_and, and_true, decide_true, decide_false, Nat.reduceMul, Nat.zero_mul, Nat.one_mul, Nat.mul_one, Bool.not_true]
        exact hR76 _ _ ⟨D, lim1, hl1, Sort.permIn_refl _ _ _, rfl, h1⟩
      | false =>
        have u1 : IntKind.i64.wrap ((lim1 : Int) - 1) = ((lim1 - 1 : Nat) : Int) := by rw [w64n (by omega)]; omega
        simp only [RS, List.cons_append, List.nil_append, Option.isNone_some, Option.isNone_none, Option.isSome_some, Option.isSome_none, Nat.zero_add, Nat.add_zero, Nat.reduceAdd, List.getElem?_cons_zero, List.getElem?_cons_succ, List.length_cons, List.length_nil, List.all_cons, List.all_nil, Bool.and_self, Bool.and_true, Bool.true_and, Option.bind_some, Nat.reduceLeDiff, Nat.reduceEqDiff, Nat.le_refl, and_self, if_true, if_false, List.drop_zero, List.drop_succ_cons, List.take_zero, List.take_succ_cons, List.take_nil, List.drop_nil, true_and, and_true, decide_true, decide_false, Nat.reduceMul, Nat.zero_mul, Nat.one_mul, Nat.mul_one, Bool.not_false]
        refine break_n hD hab1 (by omega) hsz h1 fun H2 h2 => ?_
        simp only [RS, List.cons_append, List.nil_append, Option.isNone_some, Option.isNone_none, Option.isSome_some, Option.isSome_none, Nat.zero_add, Nat.add_zero, Nat.reduceAdd, List.getElem?_cons_zero, List.getElem?_cons_succ, List.length_cons, List.length_nil, List.all_cons, List.all_nil, Bool.and_self, Bool.and_true, Bool.true_and, Option.bind_some, Nat.reduceLeDiff, Nat.reduceEqDiff, Nat.le_refl, and_self, if_true, if_false, List.drop_zero, List.drop_succ_cons, List.take_zero, List.take_succ_cons, List.take_nil, List.drop_nil, true_and, and_true, decide_true, decide_false, Nat.reduceMul, Nat.zero_mul, Nat.one_mul, Nat.mul_one, u1]
        exact hR76 _ _ ⟨_, lim1 - 1, by omega, Sort.breakPatterns_holds D a1 b1 hab1 (by omega), rfl, h2⟩
  · rintro t H1 ⟨a1, b1, lim1, wb, wp, D, -, -, -, hN, -⟩; omega
theorem pdq_all (m n cap : Nat) : ∀ k, PdqAt m n cap k
  | 0 => fun a b lim d H K F h => by omega
  | k + 1 => pdq_step (pdq_all m n cap k)
/-- slices.SortFunc over a row of words. -/
theorem sortFunc_ok {m cap : Nat} {d : WA} {H : AH} {K : KV} {F : SL} (hsz : d.size < 1000000) (hs : sat H (pts m (wobj d) * F))
    (hK : ∀ (R : WA) H', Sort.PermIn 0 d.size d R → Sort.SortedIn ltW 0 d.size R → sat H' (pts m (wobj R) * F) → K (.tuple ⟨[]⟩) H') :
    DS Try.prog Fi.slices_SortFunc_cells_Word_cells_Word [slc m d.size cap, cmpF] H K := by
  refine use_slices_SortFunc_cells_Word_cells_Word 0 ?_
  unfold sh_slices_SortFunc_cells_Word_cells_Word
  have w1 : IntKind.u64.wrap ((d.size : Nat) : Int) = ((d.size : Nat) : Int) := by rw [wrap_u64, Nat.mod_eq_of_lt (by omega)]
  simp only [RS, List.cons_append, List.nil_append, Option.isNone_some, Option.isNone_none, Option.isSome_some, Option.isSome_none, Nat.zero_add, Nat.add_zero, Nat.reduceAdd, List.getElem?_cons_zero, List.getElem?_cons_succ, List.length_cons, List.length_nil, List.all_cons, List.all_nil, Bool.and_self, Bool.and_true, Bool.true_and, Option.bind_some, Nat.reduceLeDiff, Nat.reduceEqDiff, Nat.le_refl, and_self, if_true, if_false, List.drop_zero, List.drop_succ_cons, List.take_zero, List.take_succ_cons, List.take_nil, List.drop_nil, true_and, and_true, decide_true, decide_false, Nat.reduceMul, Nat.zero_mul, Nat.one_mul, Nat.mul_one, w1]
  refine len_ok hsz ?_
  have hb := bitsLen_20 hsz
  refine pdq_all m d.size cap (d.size + 1) 0 d.size (Sort.bitsLen d.size) d _ _ F (by omega) (by omega) (Nat.le_refl _) rfl hsz (by omega) (.inl rfl) hs fun R H' h1 h2 h3 => ?_
  exact hK R H' h1 h2 h3
end Go.Proofs.Ytiolnpeniklhiaa
