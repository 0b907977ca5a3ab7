/- The statement CellsPlay's walk.
   Conditions: what stands in memory, as each states it. -/
import Derived.Test.YtiolnpeniklhiaaPlay1
namespace Go.Proofs.Ytiolnpeniklhiaa
open Go Go.Ab
set_option linter.all false
set_option maxRecDepth 100000

/-- A slice of acts as the loops read it. -/
structure RowA (H : AH) (v : Value) (l : List AP) : Prop where
  len : ∀ t, lenT (.slice t) v H = some (.int .i64 (l.length : Int))
  at0 : ∀ (i : Nat) (x : AP), l[i]? = some x → ∃ n, ixS 5 v (.int .i64 (i : Int)) = some (.pointer (some ⟨n, i * 5, none⟩)) ∧ cellO (i * 5 + 1) (H.get n) = some (.int .u32 x.a) ∧ cellsO 5 (i * 5) (H.get n) = some (.agg ⟨x.row⟩)
theorem capT_fix {H : AH} {n len cap : Nat} {T T' : TypeId} {cs : List Value} (g : H.get n = some (.cells cs T .fix)) : capT (.slice T') (slc n len cap) H = some (.int .i64 (cap : Int)) := by
  have : exactName H n = true := by unfold exactName; rw [g]
  unfold capT
  simp only []
  unfold capS
  simp only [this, Bool.or_true, cond_true]
theorem slcS_cap {H : AH} {n len cap : Nat} {T : TypeId} {cs : List Value} (g : H.get n = some (.cells cs T .fix)) : slcS 2 (slc n len cap) none (some (.int .i64 (cap : Int))) none H = some (slc n cap cap) := by
  have hx : exactName H n = true := by unfold exactName; rw [g]
  have e1 : decide ((0 : Int) ≤ (cap : Int)) = true := by simp
  have e2 : decide ((cap : Int) ≤ (cap : Int)) = true := by simp
  have e3 : Nat.ble cap cap = true := by rw [Nat.ble_eq]; exact Nat.le_refl _
  unfold slcS
  simp only [intO, bnd3, e1, e2, Bool.and_self, cond_true, Int.toNat_natCast, e3, hx, Bool.or_true, Nat.sub_zero, Nat.zero_mul, Nat.add_zero]
  cases Nat.beq cap 0 <;> rfl
theorem CellsPlay_ds {v1 v2 : Value} {l1 : WL} {l2 : List AP} {A : SL} {H : AH} {K : KV} (hr1 : ∀ H', sat H' A → Row H' v1 l1) (hr2 : ∀ H', sat H' A → RowA H' v2 l2) (ok1 : ∀ p ∈ l1, wordOK p) (ok2 : ∀ x ∈ l2, x.ok) (hs : sat H A)
    (hK : ∀ H', K (.bool true) H') : DS Try.prog Fi.laybylaw02_CellsPlay [v1, v2] H K := by
  refine use_laybylaw02_CellsPlay 1000 ?_
  unfold sh_laybylaw02_CellsPlay
  have r1 := (hr1 H hs).len
  have r2 := (hr2 H hs).len
  by_cases h100 : l1.length > 100
  · have e : decide ((l1.length : Int) > 100) = true := by simp; omega
    simp only [RS, List.cons_append, List.nil_append, Option.isNone_some, Option.isNone_none, Option.isSome_some, Option.isSome_none, Nat.zero_add, Nat.add_zero, Nat.reduceAdd, List.getElem?_cons_zero, List.getElem?_cons_succ, List.length_cons, List.length_nil, List.all_cons, List.all_nil, Bool.and_self, Bool.and_true, Bool.true_and, Option.bind_some, Nat.reduceLeDiff, Nat.reduceEqDiff, Nat.le_refl, and_self, if_true, if_false, List.drop_zero, List.drop_succ_cons, List.take_zero, List.take_succ_cons, List.take_nil, List.drop_nil, true_and, and_true, decide_true, decide_false, Nat.reduceMul, Nat.zero_mul, Nat.one_mul, Nat.mul_one, r1, e]
    exact lives02_ok (hK _)
  have e1 : decide ((l1.length : Int) > 100) = false := by simp; omega
  by_cases h200 : l2.length > 200
  · have e : decide ((l2.length : Int) > 200) = true := by simp; omega
    simp only [RS, List.cons_append, List.nil_append, Option.isNone_some, Option.isNone_none, Option.isSome_some, Option.isSome_none, Nat.zero_add, Nat.add_zero, Nat.reduceAdd, List.getElem?_cons_zero, List.getElem?_cons_succ, List.length_cons, List.length_nil, List.all_cons, List.all_nil, Bool.and_self, Bool.and_true, Bool.true_and, Option.bind_some, Nat.reduceLeDiff, Nat.reduceEqDiff, Nat.le_refl, and_self, if_true, if_false, List.drop_zero, List.drop_succ_cons, List.take_zero, List.take_succ_cons, List.take_nil, List.drop_nil, true_and, and_true, decide_true, decide_false, Nat.reduceMul, Nat.zero_mul, Nat.one_mul, Nat.mul_one, r1, e1, r2, e]
    exact lives02_ok (hK _)
  have e2 : decide ((l2.length : Int) > 200) = false := by simp; omega
  simp only [RS, List.cons_append, List.nil_append, Option.isNone_some, Option.isNone_none, Option.isSome_some, Option.isSome_none, Nat.zero_add, Nat.add_zero, Nat.reduceAdd, List.getElem?_cons_zero, List.getElem?_cons_succ, List.length_cons, List.length_nil, List.all_cons, List.all_nil, Bool.and_self, Bool.and_true, Bool.true_and, Option.bind_some, Nat.reduceLeDiff, Nat.reduceEqDiff, Nat.le_refl, and_self, if_true, if_false, List.drop_zero, List.drop_succ_cons, List.take_zero, List.take_succ_cons, List.take_nil, List.drop_nil, true_and, and_true, decide_true, decide_false, Nat.reduceMul, Nat.zero_mul, Nat.one_mul, Nat.mul_one, r1, e1, r2, e2]
  refine lp_rule (fun n t H1 => ∃ (i : Nat) (ov : Value), i ≤ l1.length ∧ l1.length < n + i ∧ t = (v1, v2, ov, .int .i64 (i : Int), ()) ∧ sat H1 (ownS Ty.laybyref02_Word 2 ov (flatW (l1.take i)) * A)) ?_ ?_
    ⟨0, .slice none 0 0, by omega, by omega, rfl, own_nil _ _ hs⟩
  · rintro n t H1 ⟨i, ov, hi, hn, rfl, h1⟩ R hR
    have row := hr1 _ (sat_sub h1)
    by_cases hil : i < l1.length
    · have hd : decide ((i : Int) < (l1.length : Int)) = true := by simpa using hil
      obtain ⟨p, hpi⟩ : ∃ p, l1[i]? = some p := ⟨_, List.getElem?_eq_getElem hil⟩
      obtain ⟨n', q1, q2, q3, q4⟩ := row.at0 i p hpi
      have hw : IntKind.i64.wrap ((i : Int) + 1) = ((i + 1 : Nat) : Int) := by rw [w64n (by omega)]; omega
      obtain ⟨ov', H2, a1, h2⟩ := app_word (Tb := Ty.laybyref02_Word) p h1 (by simp; omega)
      simp only [RS, List.cons_append, List.nil_append, Option.isNone_some, Option.isNone_none, Option.isSome_some, Option.isSome_none, Nat.zero_add, Nat.add_zero, Nat.reduceAdd, List.getElem?_cons_zero, List.getElem?_cons_succ, List.length_cons, List.length_nil, List.all_cons, List.all_nil, Bool.and_self, Bool.and_true, Bool.true_and, Option.bind_some, Nat.reduceLeDiff, Nat.reduceEqDiff, Nat.le_refl, and_self, if_true, if_false, List.drop_zero, List.drop_succ_cons, List.take_zero, List.take_succ_cons, List.take_nil, List.drop_nil, true_and, and_true, decide_true, decide_false, Nat.reduceMul, Nat.zero_mul, Nat.one_mul, Nat.mul_one, row.len, hd, q1, q2, q3, a1, hw]
      refine hR _ _ ⟨i + 1, ov', by omega, by omega, rfl, ?_⟩
      obtain ⟨_, rfl⟩ := List.getElem?_eq_some_iff.1 hpi
      rw [List.take_succ_eq_append_getElem hil]
      exact h2
    · have hd : decide ((i : Int) < (l1.length : Int)) = false := by simpa using hil
      rw [List.take_of_length_le (by omega)] at h1
      simp only [RS, List.cons_append, List.nil_append, Option.isNone_some, Option.isNone_none, Option.isSome_some, Option.isSome_none, Nat.zero_add, Nat.add_zero, Nat.reduceAdd, List.getElem?_cons_zero, List.getElem?_cons_succ, List.length_cons, List.length_nil, List.all_cons, List.all_nil, Bool.and_self, Bool.and_true, Bool.true_and, Option.bind_some, Nat.reduceLeDiff, Nat.reduceEqDiff, Nat.le_refl, and_self, if_true, if_false, List.drop_zero, List.drop_succ_cons, List.take_zero, List.take_succ_cons, List.take_nil, List.drop_nil, true_and, and_true, decide_true, decide_false, Nat.reduceMul, Nat.zero_mul, Nat.one_mul, Nat.mul_one, row.len, hd]
      refine New_ok (l := l1) (fun H' h' => hr1 H' (sat_sub h')) (by omega) ok1 h1 fun c H2 h2 => ?_
      refine RNew_ok (l := l1) (fun H' h' => row_of_own (sat_sub h')) (by omega) ok1 h2 fun r H3 h3 => ?_
      obtain ⟨G, hG⟩ : ∃ G, G = ownS Ty.laybyref02_Word 2 ov (flatW l1) * A := ⟨_, rfl⟩
      rw [← hG] at h3
      refine Same_ok (m := l1.length) (by omega) (sat_of_eq (B := CellsP c (CSN l1) * (RefP r (CSN l1) l1.length * G)) h3 (by ac_rfl)) fun H4 h4 => ?_
      simp only [RS, List.cons_append, List.nil_append, Option.isNone_some, Option.isNone_none, Option.isSome_some, Option.isSome_none, Nat.zero_add, Nat.add_zero, Nat.reduceAdd, List.getElem?_cons_zero, List.getElem?_cons_succ, List.length_cons, List.length_nil, List.all_cons, List.all_nil, Bool.and_self, Bool.and_true, Bool.true_and, Option.bind_some, Nat.reduceLeDiff, Nat.reduceEqDiff, Nat.le_refl, and_self, if_true, if_false, List.drop_zero, List.drop_succ_cons, List.take_zero, List.take_succ_cons, List.take_nil, List.drop_nil, true_and, and_true, decide_true, decide_false, Nat.reduceMul, Nat.zero_mul, Nat.one_mul, Nat.mul_one, Bool.not_true]
      have acts : ∀ {H' : AH} {X : SL}, sat H' (X * G) → RowA H' v2 l2 := fun h => hr2 _ (sat_sub (hG ▸ sat_sub h))
      refine lp_rule (fun n t H1 => ∃ (i : Nat) (s : CS), i ≤ l2.length ∧ l2.length < n + i ∧ t = (v2, ptr c, ptr r, .int .i64 (i : Int), ()) ∧ sat H1 (CellsP c s * (RefP r s (l1.length + i) * G))) ?_ ?_
        ⟨0, CSN l1, by omega, by omega, rfl, h4⟩
      · rintro n2 t H5 ⟨i2, s, hi2, hn2, rfl, h5⟩ R2 hR2
        have row := acts (X := CellsP c s * RefP r s (l1.length + i2)) (sat_of_eq h5 (by ac_rfl))
        by_cases hil2 : i2 < l2.length
        · have hd2 : decide ((i2 : Int) < (l2.length : Int)) = true := by simpa using hil2
          obtain ⟨x, hxi⟩ : ∃ x, l2[i2]? = some x := ⟨_, List.getElem?_eq_getElem hil2⟩
          have hx := ok2 x (List.mem_of_getElem? hxi)
          have hw : IntKind.i64.wrap ((i2 : Int) + 1) = ((i2 + 1 : Nat) : Int) := by rw [w64n (by omega)]; omega
          obtain ⟨n5, q1, q2, q3⟩ := row.at0 i2 x hxi
          simp only [RS, List.cons_append, List.nil_append, Option.isNone_some, Option.isNone_none, Option.isSome_some, Option.isSome_none, Nat.zero_add, Nat.add_zero, Nat.reduceAdd, List.getElem?_cons_zero, List.getElem?_cons_succ, List.length_cons, List.length_nil, List.all_cons, List.all_nil, Bool.and_self, Bool.and_true, Bool.true_and, Option.bind_some, Nat.reduceLeDiff, Nat.reduceEqDiff, Nat.le_refl, and_self, if_true, if_false, List.drop_zero, List.drop_succ_cons, List.take_zero, List.take_succ_cons, List.take_nil, List.drop_nil, true_and, and_true, decide_true, decide_false, Nat.reduceMul, Nat.zero_mul, Nat.one_mul, Nat.mul_one, row.len, hd2]
          refine jn_of ?_
          refine jn_rule (fun t H => ∃ s', t = (v2, ptr c, ptr r, .int .i64 (i2 : Int), ()) ∧ sat H (CellsP c s' * (RefP r s' (l1.length + (i2 + 1)) * G))) ?_ ?_
          · rintro t H6 ⟨s', rfl, h6⟩
            obtain ⟨v, L, hL, hrng, hlen, -⟩ := sat_ref.1 (sat_of_eq (B := RefP r s' (l1.length + (i2 + 1)) * (CellsP c s' * G)) h6 (by ac_rfl))
            simp only [RS, List.cons_append, List.nil_append, Option.isNone_some, Option.isNone_none, Option.isSome_some, Option.isSome_none, Nat.zero_add, Nat.add_zero, Nat.reduceAdd, List.getElem?_cons_zero, List.getElem?_cons_succ, List.length_cons, List.length_nil, List.all_cons, List.all_nil, Bool.and_self, Bool.and_true, Bool.true_and, Option.bind_some, Nat.reduceLeDiff, Nat.reduceEqDiff, Nat.le_refl, and_self, if_true, if_false, List.drop_zero, List.drop_succ_cons, List.take_zero, List.take_succ_cons, List.take_nil, List.drop_nil, true_and, and_true, decide_true, decide_false, Nat.reduceMul, Nat.zero_mul, Nat.one_mul, Nat.mul_one]
            refine Words_ok hL (by omega) h6 fun w H7 h7 => ?_
            have h7' := sat_of_eq (B := pts w (.cells (flatW L) Ty.cells_Word .fix) * (CellsP c s' * (RefP r s' (l1.length + (i2 + 1)) * G))) h7 (by ac_rfl)
            have g7 := (sat_get h7').1
            simp only [capT_fix g7, slcS_cap g7, bn_some]
            refine lp_rule (fun n t H => ∃ (k : Nat) (D : WA), D.size = L.length ∧ k ≤ L.length ∧ L.length < n + k ∧ t = (v2, ptr c, ptr r, .int .i64 (i2 : Int), slc w L.length L.length, .int .i64 (k : Int), ()) ∧ sat H (pts w (wobj D) * (CellsP c s' * (RefP r s' (l1.length + (i2 + 1)) * G)))) ?_ ?_
              ⟨0, L.toArray, by simp, by omega, by omega, rfl, by rw [show wobj L.toArray = .cells (flatW L) Ty.cells_Word .fix by unfold wobj; rw [flatD_toArray]]; exact h7'⟩
            · rintro n3 t H8 ⟨k, D, hD, hk, hn3, rfl, h8⟩ R3 hR3
              simp only [RS, List.cons_append, List.nil_append, Option.isNone_some, Option.isNone_none, Option.isSome_some, Option.isSome_none, Nat.zero_add, Nat.add_zero, Nat.reduceAdd, List.getElem?_cons_zero, List.getElem?_cons_succ, List.length_cons, List.length_nil, List.all_cons, List.all_nil, Bool.and_self, Bool.and_true, Bool.true_and, Option.bind_some, Nat.reduceLeDiff, Nat.reduceEqDiff, Nat.le_refl, and_self, if_true, if_false, List.drop_zero, List.drop_succ_cons, List.take_zero, List.take_succ_cons, List.take_nil, List.drop_nil, true_and, and_true, decide_true, decide_false, Nat.reduceMul, Nat.zero_mul, Nat.one_mul, Nat.mul_one]
              by_cases hkl : k < L.length
              · have hd3 : decide ((k : Int) < (L.length : Int)) = true := by simpa using hkl
                have hw3 : IntKind.i64.wrap ((k : Int) + 1) = ((k + 1 : Nat) : Int) := by rw [w64n (by omega)]; omega
                have g8 := (sat_get h8).1
                simp only [hd3, RS, List.cons_append, List.nil_append, Option.isNone_some, Option.isNone_none, Option.isSome_some, Option.isSome_none, Nat.zero_add, Nat.add_zero, Nat.reduceAdd, List.getElem?_cons_zero, List.getElem?_cons_succ, List.length_cons, List.length_nil, List.all_cons, List.all_nil, Bool.and_self, Bool.and_true, Bool.true_and, Option.bind_some, Nat.reduceLeDiff, Nat.reduceEqDiff, Nat.le_refl, and_self, if_true, if_false, List.drop_zero, List.drop_succ_cons, List.take_zero, List.take_succ_cons, List.take_nil, List.drop_nil, true_and, and_true, decide_true, decide_false, Nat.reduceMul, Nat.zero_mul, Nat.one_mul, Nat.mul_one, ixw (m := w) (cap := L.length) hkl, g8, hw3]
                have hst : stO 2 w (k * 2) (.agg ⟨[.int .u32 7, .int .u64 7]⟩) H8 (some (wobj D)) = _ := stw (7, 7) (show k < D.size by omega) H8 Ty.cells_Word
                simp only [hst, bn2_some]
                exact hR3 _ _ ⟨k + 1, D.setIfInBounds k (7, 7), by simp [hD], by omega, by omega, rfl, sat_put _ h8⟩
              · have hd3 : decide ((k : Int) < (L.length : Int)) = false := by simpa using hkl
                simp only [hd3, RS, List.cons_append, List.nil_append, Option.isNone_some, Option.isNone_none, Option.isSome_some, Option.isSome_none, Nat.zero_add, Nat.add_zero, Nat.reduceAdd, List.getElem?_cons_zero, List.getElem?_cons_succ, List.length_cons, List.length_nil, List.all_cons, List.all_nil, Bool.and_self, Bool.and_true, Bool.true_and, Option.bind_some, Nat.reduceLeDiff, Nat.reduceEqDiff, Nat.le_refl, and_self, if_true, if_false, List.drop_zero, List.drop_succ_cons, List.take_zero, List.take_succ_cons, List.take_nil, List.drop_nil, true_and, and_true, decide_true, decide_false, Nat.reduceMul, Nat.zero_mul, Nat.one_mul, Nat.mul_one, hw]
                exact hR2 _ _ ⟨i2 + 1, s', by omega, by omega, rfl, sat_sub h8⟩
            · rintro t H8 ⟨k, D, hD, hk, hn3, -⟩; omega
          · intro R67 hR67
            refine jn_of ?_
            simp only [RS, List.cons_append, List.nil_append, Option.isNone_some, Option.isNone_none, Option.isSome_some, Option.isSome_none, Nat.zero_add, Nat.add_zero, Nat.reduceAdd, List.getElem?_cons_zero, List.getElem?_cons_succ, List.length_cons, List.length_nil, List.all_cons, List.all_nil, Bool.and_self, Bool.and_true, Bool.true_and, Option.bind_some, Nat.reduceLeDiff, Nat.reduceEqDiff, Nat.le_refl, and_self, if_true, if_false, List.drop_zero, List.drop_succ_cons, List.take_zero, List.take_succ_cons, List.take_nil, List.drop_nil, true_and, and_true, decide_true, decide_false, Nat.reduceMul, Nat.zero_mul, Nat.one_mul, Nat.mul_one, q1, q3]
            refine do_ok (x := x) (by omega) hx h5 fun H6 s' h6 => ?_
            have row6 := acts (X := CellsP c s' * RefP r s' (l1.length + i2 + 1)) (sat_of_eq h6 (by ac_rfl))
            obtain ⟨n6, p1, p2, p3⟩ := row6.at0 i2 x hxi
            obtain rfl : n6 = n5 := by rw [q1] at p1; simpa using p1.symm
            simp only [RS, List.cons_append, List.nil_append, Option.isNone_some, Option.isNone_none, Option.isSome_some, Option.isSome_none, Nat.zero_add, Nat.add_zero, Nat.reduceAdd, List.getElem?_cons_zero, List.getElem?_cons_succ, List.length_cons, List.length_nil, List.all_cons, List.all_nil, Bool.and_self, Bool.and_true, Bool.true_and, Option.bind_some, Nat.reduceLeDiff, Nat.reduceEqDiff, Nat.le_refl, and_self, if_true, if_false, List.drop_zero, List.drop_succ_cons, List.take_zero, List.take_succ_cons, List.take_nil, List.drop_nil, true_and, and_true, decide_true, decide_false, Nat.reduceMul, Nat.zero_mul, Nat.one_mul, Nat.mul_one, Bool.not_true, p1, p2]
            refine Peek_ok h6 ?_
            simp only [RS, List.cons_append, List.nil_append, Option.isNone_some, Option.isNone_none, Option.isSome_some, Option.isSome_none, Nat.zero_add, Nat.add_zero, Nat.reduceAdd, List.getElem?_cons_zero, List.getElem?_cons_succ, List.length_cons, List.length_nil, List.all_cons, List.all_nil, Bool.and_self, Bool.and_true, Bool.true_and, Option.bind_some, Nat.reduceLeDiff, Nat.reduceEqDiff, Nat.le_refl, and_self, if_true, if_false, List.drop_zero, List.drop_succ_cons, List.take_zero, List.take_succ_cons, List.take_nil, List.drop_nil, true_and, and_true, decide_true, decide_false, Nat.reduceMul, Nat.zero_mul, Nat.one_mul, Nat.mul_one, p2]
            refine RPeek_ok (m := l1.length + i2 + 1) (by omega) (sat_sub h6) ?_
            simp only [RS, List.cons_append, List.nil_append, Option.isNone_some, Option.isNone_none, Option.isSome_some, Option.isSome_none, Nat.zero_add, Nat.add_zero, Nat.reduceAdd, List.getElem?_cons_zero, List.getElem?_cons_succ, List.length_cons, List.length_nil, List.all_cons, List.all_nil, Bool.and_self, Bool.and_true, Bool.true_and, Option.bind_some, Nat.reduceLeDiff, Nat.reduceEqDiff, Nat.le_refl, and_self, if_true, if_false, List.drop_zero, List.drop_succ_cons, List.take_zero, List.take_succ_cons, List.take_nil, List.drop_nil, true_and, and_true, decide_true, decide_false, Nat.reduceMul, Nat.zero_mul, Nat.one_mul, Nat.mul_one, bne_self_eq_false, p2]
            refine Byte_ok hx.2.1.1 hx.2.1.2 ?_
            simp only [RS, List.cons_append, List.nil_append, Option.isNone_some, Option.isNone_none, Option.isSome_some, Option.isSome_none, Nat.zero_add, Nat.add_zero, Nat.reduceAdd, List.getElem?_cons_zero, List.getElem?_cons_succ, List.length_cons, List.length_nil, List.all_cons, List.all_nil, Bool.and_self, Bool.and_true, Bool.true_and, Option.bind_some, Nat.reduceLeDiff, Nat.reduceEqDiff, Nat.le_refl, and_self, if_true, if_false, List.drop_zero, List.drop_succ_cons, List.take_zero, List.take_succ_cons, List.take_nil, List.drop_nil, true_and, and_true, decide_true, decide_false, Nat.reduceMul, Nat.zero_mul, Nat.one_mul, Nat.mul_one, p2]
            refine RByte_ok hx.2.1.1 hx.2.1.2 ?_
            simp only [RS, List.cons_append, List.nil_append, Option.isNone_some, Option.isNone_none, Option.isSome_some, Option.isSome_none, Nat.zero_add, Nat.add_zero, Nat.reduceAdd, List.getElem?_cons_zero, List.getElem?_cons_succ, List.length_cons, List.length_nil, List.all_cons, List.all_nil, Bool.and_self, Bool.and_true, Bool.true_and, Option.bind_some, Nat.reduceLeDiff, Nat.reduceEqDiff, Nat.le_refl, and_self, if_true, if_false, List.drop_zero, List.drop_succ_cons, List.take_zero, List.take_succ_cons, List.take_nil, List.drop_nil, true_and, and_true, decide_true, decide_false, Nat.reduceMul, Nat.zero_mul, Nat.one_mul, Nat.mul_one, beq_self_eq_true, Bool.not_true]
            refine Same_ok (m := l1.length + i2 + 1) (by omega) h6 fun H7 h7 => ?_
            simp only [RS, List.cons_append, List.nil_append, Option.isNone_some, Option.isNone_none, Option.isSome_some, Option.isSome_none, Nat.zero_add, Nat.add_zero, Nat.reduceAdd, List.getElem?_cons_zero, List.getElem?_cons_succ, List.length_cons, List.length_nil, List.all_cons, List.all_nil, Bool.and_self, Bool.and_true, Bool.true_and, Option.bind_some, Nat.reduceLeDiff, Nat.reduceEqDiff, Nat.le_refl, and_self, if_true, if_false, List.drop_zero, List.drop_succ_cons, List.take_zero, List.take_succ_cons, List.take_nil, List.drop_nil, true_and, and_true, decide_true, decide_false, Nat.reduceMul, Nat.zero_mul, Nat.one_mul, Nat.mul_one, Bool.not_true]
            exact hR67 _ _ ⟨s', rfl, h7⟩
        · have hd2 : decide ((i2 : Int) < (l2.length : Int)) = false := by simpa using hil2
          simp only [RS, List.cons_append, List.nil_append, Option.isNone_some, Option.isNone_none, Option.isSome_some, Option.isSome_none, Nat.zero_add, Nat.add_zero, Nat.reduceAdd, List.getElem?_cons_zero, List.getElem?_cons_succ, List.length_cons, List.length_nil, List.all_cons, List.all_nil, Bool.and_self, Bool.and_true, Bool.true_and, Option.bind_some, Nat.reduceLeDiff, Nat.reduceEqDiff, Nat.le_refl, and_self, if_true, if_false, List.drop_zero, List.drop_succ_cons, List.take_zero, List.take_succ_cons, List.take_nil, List.drop_nil, true_and, and_true, decide_true, decide_false, Nat.reduceMul, Nat.zero_mul, Nat.one_mul, Nat.mul_one, row.len, hd2]
          refine Same_ok (m := l1.length + i2) (by omega) h5 fun H6 h6 => ?_
          simp only [RS, List.cons_append, List.nil_append, Option.isNone_some, Option.isNone_none, Option.isSome_some, Option.isSome_none, Nat.zero_add, Nat.add_zero, Nat.reduceAdd, List.getElem?_cons_zero, List.getElem?_cons_succ, List.length_cons, List.length_nil, List.all_cons, List.all_nil, Bool.and_self, Bool.and_true, Bool.true_and, Option.bind_some, Nat.reduceLeDiff, Nat.reduceEqDiff, Nat.le_refl, and_self, if_true, if_false, List.drop_zero, List.drop_succ_cons, List.take_zero, List.take_succ_cons, List.take_nil, List.drop_nil, true_and, and_true, decide_true, decide_false, Nat.reduceMul, Nat.zero_mul, Nat.one_mul, Nat.mul_one]
          refine lives02_ok ?_
          exact hK _
      · rintro t H5 ⟨i2, s, hi2, hn2, -⟩; omega
  · rintro t H1 ⟨i, ov, hi, hn, -⟩; omega
end Go.Proofs.Ytiolnpeniklhiaa
