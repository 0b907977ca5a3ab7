/- Are cells the document's: they are.
   Conditions: what stands in memory, as each states it. -/
import Derived.Test.YtiolnpeniklhiaaWords
import Derived.Test.YtiolnpeniklhiaaRefCells3
namespace Go.Proofs.Ytiolnpeniklhiaa
open Go Go.Ab
set_option linter.all false
set_option maxRecDepth 100000

theorem Same_ok {c r : Nat} {s : CS} {m : Nat} {H : AH} {K : KV} {F : SL} (hm : m < 100000) (hs : sat H (CellsP c s * (RefP r s m * F)))
    (hK : ∀ H', sat H' (CellsP c s * (RefP r s m * F)) → K (.bool true) H') : DS Try.prog Fi.laybylaw02_Same [ptr c, ptr r] H K := by
  refine use_laybylaw02_Same (m + 2) ?_
  unfold sh_laybylaw02_Same
  obtain ⟨v, L, hL, hrng, hlen, hp0⟩ := sat_ref.1 (sat_of_eq (B := RefP r s m * (CellsP c s * F)) hs (by ac_rfl))
  have hp := sat_of_eq (B := CellsP c s * (pts r (s.rhd v) * (ownS Ty.laybyref02_Word 2 v (flatW L) * F))) hp0 (by ac_rfl)
  have back : ∀ H', sat H' (CellsP c s * (pts r (s.rhd v) * (ownS Ty.laybyref02_Word 2 v (flatW L) * F))) → sat H' (CellsP c s * (RefP r s m * F)) := by
    intro H' h
    have := sat_ref.2 ⟨v, L, hL, hrng, hlen, sat_of_eq (B := pts r (s.rhd v) * (ownS Ty.laybyref02_Word 2 v (flatW L) * (CellsP c s * F))) h (by ac_rfl)⟩
    exact sat_of_eq this (by ac_rfl)
  simp only [callV_fv, List.nil_append, List.append_nil]
  refine Words_ok hL (by omega) hp fun w H1 h1 => ?_
  have fr : ∀ H', sat H' (CellsP c s * (pts w (.cells (flatW L) Ty.cells_Word .fix) * (pts r (s.rhd v) * (ownS Ty.laybyref02_Word 2 v (flatW L) * F)))) → H'.get r = some (s.rhd v) ∧ H'.get w = some (.cells (flatW L) Ty.cells_Word .fix) ∧ Row H' v L := by
    intro H' h
    refine ⟨(sat_get (sat_sub (sat_sub h))).1, (sat_get (sat_sub h)).1, ?_⟩
    exact row_of_own (sat_of_eq (B := ownS Ty.laybyref02_Word 2 v (flatW L) * (pts r (s.rhd v) * (CellsP c s * (pts w (.cells (flatW L) Ty.cells_Word .fix) * F)))) h (by ac_rfl))
  obtain ⟨r1, -, -⟩ := fr H1 h1
  refine jn_rule (fun t H => t = (ptr r, slc w L.length L.length, ()) ∧ sat H (CellsP c s * (pts w (.cells (flatW L) Ty.cells_Word .fix) * (pts r (s.rhd v) * (ownS Ty.laybyref02_Word 2 v (flatW L) * F))))) ?_ ?_
  · rintro t H2 ⟨rfl, h2⟩
    simp only [RS, List.cons_append, List.nil_append, Option.isNone_some, Option.isNone_none, Option.isSome_some, Option.isSome_none, Nat.zero_add, Nat.add_zero, Nat.reduceAdd, List.getElem?_cons_zero, List.getElem?_cons_succ, List.length_cons, List.length_nil, List.all_cons, List.all_nil, Bool.and_self, Bool.and_true, Bool.true_and, Option.bind_some, Nat.reduceLeDiff, Nat.reduceEqDiff, Nat.le_refl, and_self, if_true, if_false, List.drop_zero, List.drop_succ_cons, List.take_zero, List.take_succ_cons, List.take_nil, List.drop_nil, true_and, and_true, decide_true, decide_false, Nat.reduceMul, Nat.zero_mul, Nat.one_mul, Nat.mul_one]
    refine lp_rule (fun n t H => ∃ i : Nat, i ≤ L.length ∧ L.length < n + i ∧ t = (ptr r, slc w L.length L.length, .int .i64 (i : Int), ()) ∧ sat H (CellsP c s * (pts w (.cells (flatW L) Ty.cells_Word .fix) * (pts r (s.rhd v) * (ownS Ty.laybyref02_Word 2 v (flatW L) * F))))) ?_ ?_ ⟨0, by omega, by omega, rfl, h2⟩
    · rintro n t H3 ⟨i, hi, hn, rfl, h3⟩ R hR
      obtain ⟨r3, w3, row3⟩ := fr H3 h3
      simp only [RS, List.cons_append, List.nil_append, Option.isNone_some, Option.isNone_none, Option.isSome_some, Option.isSome_none, Nat.zero_add, Nat.add_zero, Nat.reduceAdd, List.getElem?_cons_zero, List.getElem?_cons_succ, List.length_cons, List.length_nil, List.all_cons, List.all_nil, Bool.and_self, Bool.and_true, Bool.true_and, Option.bind_some, Nat.reduceLeDiff, Nat.reduceEqDiff, Nat.le_refl, and_self, if_true, if_false, List.drop_zero, List.drop_succ_cons, List.take_zero, List.take_succ_cons, List.take_nil, List.drop_nil, true_and, and_true, decide_true, decide_false, Nat.reduceMul, Nat.zero_mul, Nat.one_mul, Nat.mul_one]
      by_cases hil : i < L.length
      · have hd : decide ((i : Int) < (L.length : Int)) = true := by simpa using hil
        obtain ⟨p, hpi⟩ : ∃ p, L[i]? = some p := ⟨_, List.getElem?_eq_getElem hil⟩
        obtain ⟨n', e1, e2, e3, -⟩ := row3.at0 i p hpi
        have f1 : (flatW L)[i * 2]? = some (.int .u32 p.1) := flatW_get hpi (j := 0) (by omega)
        have f2 : (flatW L)[i * 2 + 1]? = some (.int .u64 p.2) := flatW_get hpi (j := 1) (by omega)
        have hw : IntKind.i64.wrap ((i : Int) + 1) = ((i + 1 : Nat) : Int) := by rw [w64n (by omega)]; omega
        simp only [hd, RS, List.cons_append, List.nil_append, Option.isNone_some, Option.isNone_none, Option.isSome_some, Option.isSome_none, Nat.zero_add, Nat.add_zero, Nat.reduceAdd, List.getElem?_cons_zero, List.getElem?_cons_succ, List.length_cons, List.length_nil, List.all_cons, List.all_nil, Bool.and_self, Bool.and_true, Bool.true_and, Option.bind_some, Nat.reduceLeDiff, Nat.reduceEqDiff, Nat.le_refl, and_self, if_true, if_false, List.drop_zero, List.drop_succ_cons, List.take_zero, List.take_succ_cons, List.take_nil, List.drop_nil, true_and, and_true, decide_true, decide_false, Nat.reduceMul, Nat.zero_mul, Nat.one_mul, Nat.mul_one]
        refine jn_of ?_
        refine jn_of ?_
        simp only [RS, List.cons_append, List.nil_append, Option.isNone_some, Option.isNone_none, Option.isSome_some, Option.isSome_none, Nat.zero_add, Nat.add_zero, Nat.reduceAdd, List.getElem?_cons_zero, List.getElem?_cons_succ, List.length_cons, List.length_nil, List.all_cons, List.all_nil, Bool.and_self, Bool.and_true, Bool.true_and, Option.bind_some, Nat.reduceLeDiff, Nat.reduceEqDiff, Nat.le_refl, and_self, if_true, if_false, List.drop_zero, List.drop_succ_cons, List.take_zero, List.take_succ_cons, List.take_nil, List.drop_nil, true_and, and_true, decide_true, decide_false, Nat.reduceMul, Nat.zero_mul, Nat.one_mul, Nat.mul_one, ixw (m := w) (cap := L.length) hil, w3, f1, ptr, r3, CS.rhd, e1, e2, bne_self_eq_false, f2, e3, hw]
        exact hR _ _ ⟨i + 1, by omega, by omega, rfl, h3⟩
      · have hd : decide ((i : Int) < (L.length : Int)) = false := by simpa using hil
        simp only [hd, RS, List.cons_append, List.nil_append, Option.isNone_some, Option.isNone_none, Option.isSome_some, Option.isSome_none, Nat.zero_add, Nat.add_zero, Nat.reduceAdd, List.getElem?_cons_zero, List.getElem?_cons_succ, List.length_cons, List.length_nil, List.all_cons, List.all_nil, Bool.and_self, Bool.and_true, Bool.true_and, Option.bind_some, Nat.reduceLeDiff, Nat.reduceEqDiff, Nat.le_refl, and_self, if_true, if_false, List.drop_zero, List.drop_succ_cons, List.take_zero, List.take_succ_cons, List.take_nil, List.drop_nil, true_and, and_true, decide_true, decide_false, Nat.reduceMul, Nat.zero_mul, Nat.one_mul, Nat.mul_one]
        exact hK _ (back _ (sat_of_eq (A := CellsP c s * (pts r (s.rhd v) * (ownS Ty.laybyref02_Word 2 v (flatW L) * F))) (sat_sub (sat_of_eq (B := pts w (.cells (flatW L) Ty.cells_Word .fix) * (CellsP c s * (pts r (s.rhd v) * (ownS Ty.laybyref02_Word 2 v (flatW L) * F)))) h3 (by ac_rfl))) rfl))
    · rintro t H3 ⟨i, hi, hn, -⟩; omega
  · intro R hR
    refine jn_of ?_
    simp only [RS, List.cons_append, List.nil_append, Option.isNone_some, Option.isNone_none, Option.isSome_some, Option.isSome_none, Nat.zero_add, Nat.add_zero, Nat.reduceAdd, List.getElem?_cons_zero, List.getElem?_cons_succ, List.length_cons, List.length_nil, List.all_cons, List.all_nil, Bool.and_self, Bool.and_true, Bool.true_and, Option.bind_some, Nat.reduceLeDiff, Nat.reduceEqDiff, Nat.le_refl, and_self, if_true, if_false, List.drop_zero, List.drop_succ_cons, List.take_zero, List.take_succ_cons, List.take_nil, List.drop_nil, true_and, and_true, decide_true, decide_false, Nat.reduceMul, Nat.zero_mul, Nat.one_mul, Nat.mul_one, ptr, r1, CS.rhd]
    refine Count_ok h1 ?_
    simp only [RS, List.cons_append, List.nil_append, Option.isNone_some, Option.isNone_none, Option.isSome_some, Option.isSome_none, Nat.zero_add, Nat.add_zero, Nat.reduceAdd, List.getElem?_cons_zero, List.getElem?_cons_succ, List.length_cons, List.length_nil, List.all_cons, List.all_nil, Bool.and_self, Bool.and_true, Bool.true_and, Option.bind_some, Nat.reduceLeDiff, Nat.reduceEqDiff, Nat.le_refl, and_self, if_true, if_false, List.drop_zero, List.drop_succ_cons, List.take_zero, List.take_succ_cons, List.take_nil, List.drop_nil, true_and, and_true, decide_true, decide_false, Nat.reduceMul, Nat.zero_mul, Nat.one_mul, Nat.mul_one, r1, CS.rhd, bne_self_eq_false]
    refine Last_ok h1 fun H2 h2 => ?_
    obtain ⟨r2, -, row2⟩ := fr H2 h2
    have eL : eqFsT [Value.int .u8 s.kind, .int .u32 s.addr, .int .u64 s.was, .int .u64 s.is] [Value.int .u8 s.kind, .int .u32 s.addr, .int .u64 s.was, .int .u64 s.is] [(0, EK.int), (1, EK.int), (2, EK.int), (3, EK.int)] = some true := by
      rw [eqFsT_int _ _ 0 _ .u8 s.kind s.kind _ rfl rfl (eqFsT_int _ _ 1 _ .u32 s.addr s.addr _ rfl rfl (eqFsT_int _ _ 2 _ .u64 s.was s.was _ rfl rfl (eqFsT_int _ _ 3 _ .u64 s.is s.is _ rfl rfl (eqFsT_nil _ _))))]
      simp
    simp only [RS, List.cons_append, List.nil_append, Option.isNone_some, Option.isNone_none, Option.isSome_some, Option.isSome_none, Nat.zero_add, Nat.add_zero, Nat.reduceAdd, List.getElem?_cons_zero, List.getElem?_cons_succ, List.length_cons, List.length_nil, List.all_cons, List.all_nil, Bool.and_self, Bool.and_true, Bool.true_and, Option.bind_some, Nat.reduceLeDiff, Nat.reduceEqDiff, Nat.le_refl, and_self, if_true, if_false, List.drop_zero, List.drop_succ_cons, List.take_zero, List.take_succ_cons, List.take_nil, List.drop_nil, true_and, and_true, decide_true, decide_false, Nat.reduceMul, Nat.zero_mul, Nat.one_mul, Nat.mul_one, r2, CS.rhd, CS.last, eL, Option.map_some, Bool.not_true, row2.len, bne_self_eq_false]
    exact hR _ _ ⟨rfl, h2⟩
end Go.Proofs.Ytiolnpeniklhiaa
