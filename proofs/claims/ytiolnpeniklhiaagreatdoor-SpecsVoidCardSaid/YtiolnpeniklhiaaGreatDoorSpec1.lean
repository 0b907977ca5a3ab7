/- Slices of numbers: looked through, copied, thinned out.
   Conditions: what stands in memory, as each states it. -/
import Derived.Test.YtiolnpeniklhiaaGreatDoorSh
import Derived.Test.YtiolnpeniklhiaaGreatDoorSh2
import Derived.Test.YtiolnpeniklhiaaGreatDoorAb2
import Derived.IntWalk
namespace Go.Proofs.YtiolnpeniklhiaaGreatDoor
open Go Go.Ab
set_option linter.all false
set_option maxRecDepth 100000

abbrev ptr (n : Nat) : Value := .pointer (some ⟨n, 0, none⟩)
abbrev ints (l : List Int) : List Value := l.map (.int .i64 ·)
theorem sat_emp' (H : AH) : sat H emp := ⟨fun _ => none, fun _ => rfl, fun n o h => by cases h⟩
theorem w64n {a : Int} (h : -9000000000000000000 ≤ a ∧ a ≤ 9000000000000000000) : IntKind.i64.wrap a = a := IntWalk.i64_in _ (by omega)
theorem w64s {n : Nat} (h : n < 1000000000) : IntKind.i64.wrap ((n : Int) + 1) = ((n + 1 : Nat) : Int) := by rw [w64n (by omega)]; omega

theorem slcS_lo {es n off len cap l : Nat} {sp : Option Nat} {H : AH} {k : IntKind} (h1 : l ≤ len) (h2 : len ≤ cap) (h3 : l < cap) : slcS es (.slice (some ⟨n, off, sp⟩) len cap) (some (.int k (l : Int))) none none H = some (.slice (some ⟨n, off + l * es, sp⟩) (len - l) (cap - l)) := by
  have e1 : decide ((0 : Int) ≤ (l : Int)) = true := by simp
  have e2 : decide ((l : Int) ≤ (len : Int)) = true := by simpa using h1
  have e3 : Nat.ble len cap = true := by rw [Nat.ble_eq]; exact h2
  have e4 : Nat.beq cap l = false := by
    cases h : Nat.beq cap l with
    | false => rfl
    | true => rw [Nat.beq_eq] at h; omega
  simp only [slcS, intO, bnd3, e1, e2, Bool.and_self, cond_true, Int.toNat_natCast, e3, e4, cond_false]
theorem slcS_hi {es n off len cap h : Nat} {sp : Option Nat} {H : AH} {k : IntKind} (h1 : h ≤ cap) (h2 : 0 < cap) : slcS es (.slice (some ⟨n, off, sp⟩) len cap) none (some (.int k (h : Int))) none H = some (.slice (some ⟨n, off, sp⟩) h cap) := by
  have e1 : decide ((0 : Int) ≤ (h : Int)) = true := by simp
  have e2 : decide ((h : Int) ≤ (cap : Int)) = true := by simpa using h1
  have e3 : Nat.ble h cap = true := by rw [Nat.ble_eq]; exact h1
  have e4 : Nat.beq cap 0 = false := by
    cases h : Nat.beq cap 0 with
    | false => rfl
    | true => rw [Nat.beq_eq] at h; omega
  simp only [slcS, intO, bnd3, e1, e2, Bool.and_self, cond_true, Int.toNat_natCast, e3, e4, cond_false, Nat.zero_mul, Nat.add_zero, Nat.sub_zero]
theorem slcS_clip {es n off len cap : Nat} {sp : Option Nat} {H : AH} {k j : IntKind} (h1 : len ≤ cap) : slcS es (.slice (some ⟨n, off, sp⟩) len cap) none (some (.int k (len : Int))) (some (.int j (len : Int))) H = some (.slice (some ⟨n, off, some 0⟩) len len) := by
  have e1 : decide ((0 : Int) ≤ (len : Int)) = true := by simp
  have e2 : decide ((len : Int) ≤ (cap : Int)) = true := by simpa using h1
  have e3 : Nat.ble len len = true := by rw [Nat.ble_eq]; exact Nat.le_refl _
  have e5 : decide ((len : Int) ≤ (len : Int)) = true := by simp
  simp only [slcS, intO, bnd3, e1, e2, e5, Bool.and_self, cond_true, Int.toNat_natCast, e3, Nat.zero_mul, Nat.add_zero, Nat.sub_zero]
  cases Nat.beq len 0 <;> rfl

/-- A slice of numbers that nobody else has; 'true': without room behind it. -/
def sliceA (x : Bool) (v : Value) (xs : List Int) : SL :=
  ex fun q : Option (Nat × List Value × CK) => match q with
    | none => lift (v = .slice none 0 0 ∧ xs = [])
    | some (m, e, k) => lift (v = .slice (some ⟨m, 0, none⟩) xs.length (xs.length + e.length) ∧ k.rw = true ∧ (x = true → e = [])) * pts m (.cells (ints xs ++ e) Ty.int k)
theorem sat_slice {x : Bool} {H : AH} {v : Value} {xs : List Int} {F : SL} : sat H (sliceA x v xs * F) ↔
    (v = .slice none 0 0 ∧ xs = [] ∧ sat H F) ∨ ∃ m e k, v = .slice (some ⟨m, 0, none⟩) xs.length (xs.length + e.length) ∧ k.rw = true ∧ (x = true → e = []) ∧ sat H (pts m (.cells (ints xs ++ e) Ty.int k) * F) := by
  unfold sliceA
  rw [sat_exS]
  constructor
  · rintro ⟨q, h⟩
    cases q with
    | none => rw [sat_lift] at h; exact .inl ⟨h.1.1, h.1.2, h.2⟩
    | some q =>
      obtain ⟨m, e, k⟩ := q
      simp only at h
      rw [sep_assoc, sat_lift] at h
      exact .inr ⟨m, e, k, h.1.1, h.1.2.1, h.1.2.2, h.2⟩
  · rintro (⟨h1, h2, h3⟩ | ⟨m, e, k, h1, h2, h3, h4⟩)
    · exact ⟨none, by simp only; rw [sat_lift]; exact ⟨⟨h1, h2⟩, h3⟩⟩
    · exact ⟨some (m, e, k), by simp only; rw [sep_assoc, sat_lift]; exact ⟨⟨h1, h2, h3⟩, h4⟩⟩
theorem slice_weak {x : Bool} {H : AH} {v : Value} {xs : List Int} {F : SL} (h : sat H (sliceA x v xs * F)) : sat H (sliceA false v xs * F) := by
  rcases sat_slice.1 h with h | ⟨m, e, k, h1, h2, h3, h4⟩
  · exact sat_slice.2 (.inl h)
  · exact sat_slice.2 (.inr ⟨m, e, k, h1, h2, by simp, h4⟩)
theorem slice_nil {x : Bool} {H : AH} {F : SL} (h : sat H F) : sat H (sliceA x (.slice none 0 0) [] * F) := sat_slice.2 (.inl ⟨rfl, rfl, h⟩)
/-- What may be read of a slice of numbers. -/
structure RowI (H : AH) (v : Value) (xs : List Int) : Prop where
  len : ∀ t, lenT (.slice t) v H = some (.int .i64 (xs.length : Int))
  at0 : ∀ (i : Nat) (x : Int), xs[i]? = some x → ∃ p, ixS 1 v (.int .i64 (i : Int)) = some p ∧ ld1 p H = some (.int .i64 x)
theorem row_cells {H : AH} {m cap : Nat} {sp : Option Nat} {xs : List Int} {e : List Value} {T : TypeId} {k : CK} (h : H.get m = some (.cells (ints xs ++ e) T k)) : RowI H (.slice (some ⟨m, 0, sp⟩) xs.length cap) xs := by
  refine ⟨fun t => rfl, fun i x hi => ?_⟩
  have hl := (List.getElem?_eq_some_iff.1 hi).1
  refine ⟨_, ixS_of 1 m 0 _ _ sp .i64 i hl, ?_⟩
  rw [ld1_ptr, h, cellO_cells, Nat.zero_add, Nat.mul_one, List.getElem?_append_left (by simpa using hl), List.getElem?_map, hi]
  rfl
theorem slice_row {x : Bool} {H : AH} {v : Value} {xs : List Int} {F : SL} (h : sat H (sliceA x v xs * F)) : RowI H v xs := by
  rcases sat_slice.1 h with ⟨rfl, rfl, -⟩ | ⟨m, e, k, rfl, -, -, h4⟩
  · exact ⟨fun t => rfl, fun i x hi => by simp at hi⟩
  · exact row_cells (sat_get h4).1

/-- A place of a number in a list, as Go tells it. -/
def isIx (t : Int) (xs : List Int) (r : Int) : Prop := (r = -1 ∧ t ∉ xs) ∨ ∃ i : Nat, r = (i : Int) ∧ xs[i]? = some t ∧ t ∉ xs.take i
theorem isIx.ge {t : Int} {xs : List Int} {r : Int} (h : isIx t xs r) : decide (r ≥ 0) = decide (t ∈ xs) := by
  rcases h with ⟨rfl, h⟩ | ⟨i, rfl, h, -⟩
  · simp [h]
  · have := List.mem_of_getElem? h
    simp [this]
theorem notin_snoc {t : Int} {xs : List Int} {i : Nat} {x : Int} (h : t ∉ xs.take i) (hx : xs[i]? = some x) (hne : t ≠ x) : t ∉ xs.take (i + 1) := by
  obtain ⟨hl, rfl⟩ := List.getElem?_eq_some_iff.1 hx
  rw [List.take_succ_eq_append_getElem hl, List.mem_append]
  rintro (h' | h')
  · exact h h'
  · simp at h'; exact hne h'
theorem Index_ok {H : AH} {v : Value} {xs : List Int} {t : Int} {K : KV} (hr : RowI H v xs) (hl : xs.length < 1000000) (hK : ∀ r, isIx t xs r → K (.int .i64 r) H) : DS Tryz.prog Fi.slices_Index_int_int [v, .int .i64 t] H K := by
  refine use_slices_Index_int_int (xs.length + 2) ?_
  unfold sh_slices_Index_int_int
  simp only [RS, List.cons_append, List.nil_append, Option.isNone_some, Option.isNone_none, Option.isSome_some, Option.isSome_none, Nat.zero_add, Nat.add_zero, Nat.reduceAdd, List.getElem?_cons_zero, List.getElem?_cons_succ, List.length_cons, List.length_nil, List.all_cons, List.all_nil, Bool.and_self, Bool.and_true, Bool.true_and, Option.bind_some, Nat.reduceLeDiff, Nat.reduceEqDiff, Nat.le_refl, and_self, if_true, if_false, List.drop_zero, List.drop_succ_cons, List.take_zero, List.take_succ_cons, List.take_nil, List.drop_nil, true_and, and_true, decide_true, decide_false, Nat.reduceMul, Nat.zero_mul, Nat.one_mul, Nat.mul_one, hr.len]
  refine lp_rule (fun n s H1 => ∃ i : Nat, i ≤ xs.length ∧ xs.length < n + i ∧ t ∉ xs.take i ∧ s = (v, .int .i64 t, .int .i64 (xs.length : Int), .int .i64 (i : Int), ()) ∧ H1 = H) ?_ ?_ ⟨0, by omega, by omega, by simp, rfl, rfl⟩
  · rintro n s H1 ⟨i, hi, hn, hno, rfl, rfl⟩ R hR
    by_cases hil : i < xs.length
    · have hd : decide ((i : Int) < (xs.length : Int)) = true := by simpa using hil
      obtain ⟨x, hx⟩ : ∃ x, xs[i]? = some x := ⟨_, List.getElem?_eq_getElem hil⟩
      obtain ⟨p, e1, e2⟩ := hr.at0 i x hx
      simp only [RS, List.cons_append, List.nil_append, Option.isNone_some, Option.isNone_none, Option.isSome_some, Option.isSome_none, Nat.zero_add, Nat.add_zero, Nat.reduceAdd, List.getElem?_cons_zero, List.getElem?_cons_succ, List.length_cons, List.length_nil, List.all_cons, List.all_nil, Bool.and_self, Bool.and_true, Bool.true_and, Option.bind_some, Nat.reduceLeDiff, Nat.reduceEqDiff, Nat.le_refl, and_self, if_true, if_false, List.drop_zero, List.drop_succ_cons, List.take_zero, List.take_succ_cons, List.take_nil, List.drop_nil, true_and, and_true, decide_true, decide_false, Nat.reduceMul, Nat.zero_mul, Nat.one_mul, Nat.mul_one, hd, e1, e2]
      by_cases he : t = x
      · have hb : (t == x) = true := by simpa using he
        simp only [hb, RS, List.cons_append, List.nil_append, Option.isNone_some, Option.isNone_none, Option.isSome_some, Option.isSome_none, Nat.zero_add, Nat.add_zero, Nat.reduceAdd, List.getElem?_cons_zero, List.getElem?_cons_succ, List.length_cons, List.length_nil, List.all_cons, List.all_nil, Bool.and_self, Bool.and_true, Bool.true_and, Option.bind_some, Nat.reduceLeDiff, Nat.reduceEqDiff, Nat.le_refl, and_self, if_true, if_false, List.drop_zero, List.drop_succ_cons, List.take_zero, List.take_succ_cons, List.take_nil, List.drop_nil, true_and, and_true, decide_true, decide_false, Nat.reduceMul, Nat.zero_mul, Nat.one_mul, Nat.mul_one]
        exact hK _ (.inr ⟨i, rfl, by rw [he]; exact hx, hno⟩)
      · have hb : (t == x) = false := by simpa using he
        simp only [hb, RS, List.cons_append, List.nil_append, Option.isNone_some, Option.isNone_none, Option.isSome_some, Option.isSome_none, Nat.zero_add, Nat.add_zero, Nat.reduceAdd, List.getElem?_cons_zero, List.getElem?_cons_succ, List.length_cons, List.length_nil, List.all_cons, List.all_nil, Bool.and_self, Bool.and_true, Bool.true_and, Option.bind_some, Nat.reduceLeDiff, Nat.reduceEqDiff, Nat.le_refl, and_self, if_true, if_false, List.drop_zero, List.drop_succ_cons, List.take_zero, List.take_succ_cons, List.take_nil, List.drop_nil, true_and, and_true, decide_true, decide_false, Nat.reduceMul, Nat.zero_mul, Nat.one_mul, Nat.mul_one, w64s (show i < 1000000000 by omega)]
        exact hR _ _ ⟨i + 1, by omega, by omega, notin_snoc hno hx he, rfl, rfl⟩
    · have hd : decide ((i : Int) < (xs.length : Int)) = false := by simpa using hil
      simp only [RS, List.cons_append, List.nil_append, Option.isNone_some, Option.isNone_none, Option.isSome_some, Option.isSome_none, Nat.zero_add, Nat.add_zero, Nat.reduceAdd, List.getElem?_cons_zero, List.getElem?_cons_succ, List.length_cons, List.length_nil, List.all_cons, List.all_nil, Bool.and_self, Bool.and_true, Bool.true_and, Option.bind_some, Nat.reduceLeDiff, Nat.reduceEqDiff, Nat.le_refl, and_self, if_true, if_false, List.drop_zero, List.drop_succ_cons, List.take_zero, List.take_succ_cons, List.take_nil, List.drop_nil, true_and, and_true, decide_true, decide_false, Nat.reduceMul, Nat.zero_mul, Nat.one_mul, Nat.mul_one, hd]
      exact hK _ (.inl ⟨rfl, by rw [List.take_of_length_le (by omega)] at hno; exact hno⟩)
  · rintro s H1 ⟨i, h1, h2, -⟩; omega
theorem Contains_ok {H : AH} {v : Value} {xs : List Int} {t : Int} {K : KV} (hr : RowI H v xs) (hl : xs.length < 1000000) (hK : K (.bool (decide (t ∈ xs))) H) : DS Tryz.prog Fi.slices_Contains_int_int [v, .int .i64 t] H K := by
  refine use_slices_Contains_int_int 0 ?_
  unfold sh_slices_Contains_int_int
  simp only [RS, List.cons_append, List.nil_append, Option.isNone_some, Option.isNone_none, Option.isSome_some, Option.isSome_none, Nat.zero_add, Nat.add_zero, Nat.reduceAdd, List.getElem?_cons_zero, List.getElem?_cons_succ, List.length_cons, List.length_nil, List.all_cons, List.all_nil, Bool.and_self, Bool.and_true, Bool.true_and, Option.bind_some, Nat.reduceLeDiff, Nat.reduceEqDiff, Nat.le_refl, and_self, if_true, if_false, List.drop_zero, List.drop_succ_cons, List.take_zero, List.take_succ_cons, List.take_nil, List.drop_nil, true_and, and_true, decide_true, decide_false, Nat.reduceMul, Nat.zero_mul, Nat.one_mul, Nat.mul_one]
  refine Index_ok hr hl fun r h => ?_
  simp only [RS, List.cons_append, List.nil_append, Option.isNone_some, Option.isNone_none, Option.isSome_some, Option.isSome_none, Nat.zero_add, Nat.add_zero, Nat.reduceAdd, List.getElem?_cons_zero, List.getElem?_cons_succ, List.length_cons, List.length_nil, List.all_cons, List.all_nil, Bool.and_self, Bool.and_true, Bool.true_and, Option.bind_some, Nat.reduceLeDiff, Nat.reduceEqDiff, Nat.le_refl, and_self, if_true, if_false, List.drop_zero, List.drop_succ_cons, List.take_zero, List.take_succ_cons, List.take_nil, List.drop_nil, true_and, and_true, decide_true, decide_false, Nat.reduceMul, Nat.zero_mul, Nat.one_mul, Nat.mul_one, h.ge]
  exact hK
/-- The closure by which 'out' asks. -/
abbrev outF (c : Nat) : Value := .func (.func Fi.specs_State_out_1) ⟨[]⟩ ⟨[ptr c]⟩
theorem out1_ok {H : AH} {c : Nat} {t x : Int} {T : TypeId} {k : CK} {K : KV} (hc : H.get c = some (.cells [.int .i64 t] T k)) (hK : K (.bool (x == t)) H) : DS Tryz.prog Fi.specs_State_out_1 [.int .i64 x, ptr c] H K := by
  refine use_specs_State_out_1 0 ?_
  unfold sh_specs_State_out_1
  simp only [RS, List.cons_append, List.nil_append, Option.isNone_some, Option.isNone_none, Option.isSome_some, Option.isSome_none, Nat.zero_add, Nat.add_zero, Nat.reduceAdd, List.getElem?_cons_zero, List.getElem?_cons_succ, List.length_cons, List.length_nil, List.all_cons, List.all_nil, Bool.and_self, Bool.and_true, Bool.true_and, Option.bind_some, Nat.reduceLeDiff, Nat.reduceEqDiff, Nat.le_refl, and_self, if_true, if_false, List.drop_zero, List.drop_succ_cons, List.take_zero, List.take_succ_cons, List.take_nil, List.drop_nil, true_and, and_true, decide_true, decide_false, Nat.reduceMul, Nat.zero_mul, Nat.one_mul, Nat.mul_one, hc]
  exact hK
theorem IndexFunc_ok {H : AH} {v : Value} {xs : List Int} {t : Int} {c : Nat} {T : TypeId} {k : CK} {K : KV} (hr : RowI H v xs) (hc : H.get c = some (.cells [.int .i64 t] T k)) (hl : xs.length < 1000000) (hK : ∀ r, isIx t xs r → K (.int .i64 r) H) :
    DS Tryz.prog Fi.slices_IndexFunc_int_int [v, outF c] H K := by
  refine use_slices_IndexFunc_int_int (xs.length + 2) ?_
  unfold sh_slices_IndexFunc_int_int
  simp only [RS, List.cons_append, List.nil_append, Option.isNone_some, Option.isNone_none, Option.isSome_some, Option.isSome_none, Nat.zero_add, Nat.add_zero, Nat.reduceAdd, List.getElem?_cons_zero, List.getElem?_cons_succ, List.length_cons, List.length_nil, List.all_cons, List.all_nil, Bool.and_self, Bool.and_true, Bool.true_and, Option.bind_some, Nat.reduceLeDiff, Nat.reduceEqDiff, Nat.le_refl, and_self, if_true, if_false, List.drop_zero, List.drop_succ_cons, List.take_zero, List.take_succ_cons, List.take_nil, List.drop_nil, true_and, and_true, decide_true, decide_false, Nat.reduceMul, Nat.zero_mul, Nat.one_mul, Nat.mul_one, hr.len]
  refine lp_rule (fun n s H1 => ∃ i : Nat, i ≤ xs.length ∧ xs.length < n + i ∧ t ∉ xs.take i ∧ s = (v, outF c, .int .i64 (xs.length : Int), .int .i64 (i : Int), ()) ∧ H1 = H) ?_ ?_ ⟨0, by omega, by omega, by simp, rfl, rfl⟩
  · rintro n s H1 ⟨i, hi, hn, hno, rfl, rfl⟩ R hR
    by_cases hil : i < xs.length
    · have hd : decide ((i : Int) < (xs.length : Int)) = true := by simpa using hil
      obtain ⟨x, hx⟩ : ∃ x, xs[i]? = some x := ⟨_, List.getElem?_eq_getElem hil⟩
      obtain ⟨p, e1, e2⟩ := hr.at0 i x hx
      simp only [RS, List.cons_append, List.nil_append, Option.isNone_some, Option.isNone_none, Option.isSome_some, Option.isSome_none, Nat.zero_add, Nat.add_zero, Nat.reduceAdd, List.getElem?_cons_zero, List.getElem?_cons_succ, List.length_cons, List.length_nil, List.all_cons, List.all_nil, Bool.and_self, Bool.and_true, Bool.true_and, Option.bind_some, Nat.reduceLeDiff, Nat.reduceEqDiff, Nat.le_refl, and_self, if_true, if_false, List.drop_zero, List.drop_succ_cons, List.take_zero, List.take_succ_cons, List.take_nil, List.drop_nil, true_and, and_true, decide_true, decide_false, Nat.reduceMul, Nat.zero_mul, Nat.one_mul, Nat.mul_one, hd, e1, e2]
      refine out1_ok hc ?_
      by_cases he : t = x
      · have hb : (x == t) = true := by simpa using he.symm
        simp only [hb, RS, List.cons_append, List.nil_append, Option.isNone_some, Option.isNone_none, Option.isSome_some, Option.isSome_none, Nat.zero_add, Nat.add_zero, Nat.reduceAdd, List.getElem?_cons_zero, List.getElem?_cons_succ, List.length_cons, List.length_nil, List.all_cons, List.all_nil, Bool.and_self, Bool.and_true, Bool.true_and, Option.bind_some, Nat.reduceLeDiff, Nat.reduceEqDiff, Nat.le_refl, and_self, if_true, if_false, List.drop_zero, List.drop_succ_cons, List.take_zero, List.take_succ_cons, List.take_nil, List.drop_nil, true_and, and_true, decide_true, decide_false, Nat.reduceMul, Nat.zero_mul, Nat.one_mul, Nat.mul_one]
        exact hK _ (.inr ⟨i, rfl, by rw [he]; exact hx, hno⟩)
      · have hb : (x == t) = false := by simpa using fun e => he e.symm
        simp only [hb, RS, List.cons_append, List.nil_append, Option.isNone_some, Option.isNone_none, Option.isSome_some, Option.isSome_none, Nat.zero_add, Nat.add_zero, Nat.reduceAdd, List.getElem?_cons_zero, List.getElem?_cons_succ, List.length_cons, List.length_nil, List.all_cons, List.all_nil, Bool.and_self, Bool.and_true, Bool.true_and, Option.bind_some, Nat.reduceLeDiff, Nat.reduceEqDiff, Nat.le_refl, and_self, if_true, if_false, List.drop_zero, List.drop_succ_cons, List.take_zero, List.take_succ_cons, List.take_nil, List.drop_nil, true_and, and_true, decide_true, decide_false, Nat.reduceMul, Nat.zero_mul, Nat.one_mul, Nat.mul_one, w64s (show i < 1000000000 by omega)]
        exact hR _ _ ⟨i + 1, by omega, by omega, notin_snoc hno hx he, rfl, rfl⟩
    · have hd : decide ((i : Int) < (xs.length : Int)) = false := by simpa using hil
      simp only [RS, List.cons_append, List.nil_append, Option.isNone_some, Option.isNone_none, Option.isSome_some, Option.isSome_none, Nat.zero_add, Nat.add_zero, Nat.reduceAdd, List.getElem?_cons_zero, List.getElem?_cons_succ, List.length_cons, List.length_nil, List.all_cons, List.all_nil, Bool.and_self, Bool.and_true, Bool.true_and, Option.bind_some, Nat.reduceLeDiff, Nat.reduceEqDiff, Nat.le_refl, and_self, if_true, if_false, List.drop_zero, List.drop_succ_cons, List.take_zero, List.take_succ_cons, List.take_nil, List.drop_nil, true_and, and_true, decide_true, decide_false, Nat.reduceMul, Nat.zero_mul, Nat.one_mul, Nat.mul_one, hd]
      exact hK _ (.inl ⟨rfl, by rw [List.take_of_length_le (by omega)] at hno; exact hno⟩)
  · rintro s H1 ⟨i, h1, h2, -⟩; omega

def wo (t : Int) (xs : List Int) : List Int := xs.filter fun x => x != t
theorem wo_none {t : Int} {xs : List Int} (h : t ∉ xs) : wo t xs = xs := by
  unfold wo
  rw [List.filter_eq_self]
  intro a ha
  have : a ≠ t := fun e => h (e ▸ ha)
  simpa using this
theorem wo_len (t : Int) (xs : List Int) : (wo t xs).length ≤ xs.length := List.length_filter_le _ _
theorem wo_take {t : Int} {xs : List Int} {j : Nat} {x : Int} (hx : xs[j]? = some x) : wo t (xs.take (j + 1)) = wo t (xs.take j) ++ (if x = t then [] else [x]) := by
  obtain ⟨hl, rfl⟩ := List.getElem?_eq_some_iff.1 hx
  rw [List.take_succ_eq_append_getElem hl]
  unfold wo
  rw [List.filter_append]
  congr 1
  by_cases h : xs[j] = t
  · simp [h]
  · simp [h]
theorem ints_set (zs : List Int) (e : List Value) (i : Nat) (x : Int) (h : i < zs.length) : (ints zs ++ e).set i (.int .i64 x) = ints (zs.set i x) ++ e := by
  rw [List.set_append_left _ _ (by simpa using h), ← List.map_set]
theorem DeleteFunc_ok {H : AH} {v : Value} {xs : List Int} {t : Int} {c : Nat} {T : TypeId} {k : CK} {K : KV} {F : SL} (h : sat H (sliceA true v xs * (pts c (.cells [.int .i64 t] T k) * F))) (hl : xs.length < 1000000)
    (hK : ∀ v' H', sat H' (sliceA false v' (wo t xs) * (pts c (.cells [.int .i64 t] T k) * F)) → K v' H') : DS Tryz.prog Fi.slices_DeleteFunc_int_int [v, outF c] H K := by
  refine use_slices_DeleteFunc_int_int (xs.length + 2) ?_
  unfold sh_slices_DeleteFunc_int_int
  simp only [RS, List.cons_append, List.nil_append, Option.isNone_some, Option.isNone_none, Option.isSome_some, Option.isSome_none, Nat.zero_add, Nat.add_zero, Nat.reduceAdd, List.getElem?_cons_zero, List.getElem?_cons_succ, List.length_cons, List.length_nil, List.all_cons, List.all_nil, Bool.and_self, Bool.and_true, Bool.true_and, Option.bind_some, Nat.reduceLeDiff, Nat.reduceEqDiff, Nat.le_refl, and_self, if_true, if_false, List.drop_zero, List.drop_succ_cons, List.take_zero, List.take_succ_cons, List.take_nil, List.drop_nil, true_and, and_true, decide_true, decide_false, Nat.reduceMul, Nat.zero_mul, Nat.one_mul, Nat.mul_one]
  have hc : ∀ {H' : AH} {A : SL}, sat H' (A * (pts c (.cells [.int .i64 t] T k) * F)) → H'.get c = some (.cells [.int .i64 t] T k) := fun h => (sat_get (sat_sub h)).1
  refine IndexFunc_ok (slice_row h) (hc h) hl fun r hr => ?_
  rcases hr with ⟨rfl, hno⟩ | ⟨i, rfl, hi, hno⟩
  · have hb : ((-1 : Int) == -1) = true := rfl
    simp only [RS, List.cons_append, List.nil_append, Option.isNone_some, Option.isNone_none, Option.isSome_some, Option.isSome_none, Nat.zero_add, Nat.add_zero, Nat.reduceAdd, List.getElem?_cons_zero, List.getElem?_cons_succ, List.length_cons, List.length_nil, List.all_cons, List.all_nil, Bool.and_self, Bool.and_true, Bool.true_and, Option.bind_some, Nat.reduceLeDiff, Nat.reduceEqDiff, Nat.le_refl, and_self, if_true, if_false, List.drop_zero, List.drop_succ_cons, List.take_zero, List.take_succ_cons, List.take_nil, List.drop_nil, true_and, and_true, decide_true, decide_false, Nat.reduceMul, Nat.zero_mul, Nat.one_mul, Nat.mul_one, hb]
    rw [wo_none hno] at hK
    exact hK _ _ (slice_weak h)
  · have hil := (List.getElem?_eq_some_iff.1 hi).1
    have hb : ((i : Int) == -1) = false := by simp
    simp only [RS, List.cons_append, List.nil_append, Option.isNone_some, Option.isNone_none, Option.isSome_some, Option.isSome_none, Nat.zero_add, Nat.add_zero, Nat.reduceAdd, List.getElem?_cons_zero, List.getElem?_cons_succ, List.length_cons, List.length_nil, List.all_cons, List.all_nil, Bool.and_self, Bool.and_true, Bool.true_and, Option.bind_some, Nat.reduceLeDiff, Nat.reduceEqDiff, Nat.le_refl, and_self, if_true, if_false, List.drop_zero, List.drop_succ_cons, List.take_zero, List.take_succ_cons, List.take_nil, List.drop_nil, true_and, and_true, decide_true, decide_false, Nat.reduceMul, Nat.zero_mul, Nat.one_mul, Nat.mul_one, hb, w64s (show i < 1000000000 by omega)]
    rcases sat_slice.1 h with ⟨-, rfl, -⟩ | ⟨m, e, kk, rfl, hrw, he, h4⟩
    · simp at hi
    obtain rfl := he rfl
    refine lp_rule (fun n s H1 => ∃ (i' j : Nat) (zs : List Int), zs.length = xs.length ∧ i' < j ∧ j ≤ xs.length ∧ xs.length < n + j ∧ zs.take i' = wo t (xs.take j) ∧ zs.drop j = xs.drop j ∧ s = (.slice (some ⟨m, 0, none⟩) xs.length xs.length, outF c, .int .i64 (i' : Int), .int .i64 (j : Int), ()) ∧
      sat H1 (pts m (.cells (ints zs ++ []) Ty.int kk) * (pts c (.cells [.int .i64 t] T k) * F))) ?_ ?_ ⟨i, i + 1, xs, rfl, by omega, by omega, by omega, ?_, rfl, rfl, h4⟩
    · rintro n s H1 ⟨i', j, zs, hz, hij, hj, hn, hzt, hzd, rfl, h1⟩ R hR
      have hrow : RowI H1 (.slice (some ⟨m, 0, none⟩) xs.length xs.length) zs := by rw [← hz]; exact row_cells (sat_get h1).1
      by_cases hjl : j < xs.length
      · have hd : decide ((j : Int) < (xs.length : Int)) = true := by simpa using hjl
        obtain ⟨x, hx⟩ : ∃ x, xs[j]? = some x := ⟨_, List.getElem?_eq_getElem hjl⟩
        have hzx : zs[j]? = some x := by
          have h5 := congrArg (·[0]?) hzd
          simp only [List.getElem?_drop, Nat.add_zero] at h5
          rw [h5, hx]
        obtain ⟨p, e1, e2⟩ := hrow.at0 j x hzx
        have hij' : i' = (wo t (xs.take j)).length := by rw [← hzt, List.length_take]; omega
        simp only [RS, List.cons_append, List.nil_append, Option.isNone_some, Option.isNone_none, Option.isSome_some, Option.isSome_none, Nat.zero_add, Nat.add_zero, Nat.reduceAdd, List.getElem?_cons_zero, List.getElem?_cons_succ, List.length_cons, List.length_nil, List.all_cons, List.all_nil, Bool.and_self, Bool.and_true, Bool.true_and, Option.bind_some, Nat.reduceLeDiff, Nat.reduceEqDiff, Nat.le_refl, and_self, if_true, if_false, List.drop_zero, List.drop_succ_cons, List.take_zero, List.take_succ_cons, List.take_nil, List.drop_nil, true_and, and_true, decide_true, decide_false, Nat.reduceMul, Nat.zero_mul, Nat.one_mul, Nat.mul_one, hd, e1, e2]
        refine jn_of ?_
        refine out1_ok (hc h1) ?_
        by_cases hxt : x = t
        · have hb : (x == t) = true := by simpa using hxt
          simp only [RS, List.cons_append, List.nil_append, Option.isNone_some, Option.isNone_none, Option.isSome_some, Option.isSome_none, Nat.zero_add, Nat.add_zero, Nat.reduceAdd, List.getElem?_cons_zero, List.getElem?_cons_succ, List.length_cons, List.length_nil, List.all_cons, List.all_nil, Bool.and_self, Bool.and_true, Bool.true_and, Option.bind_some, Nat.reduceLeDiff, Nat.reduceEqDiff, Nat.le_refl, and_self, if_true, if_false, List.drop_zero, List.drop_succ_cons, List.take_zero, List.take_succ_cons, List.take_nil, List.drop_nil, true_and, and_true, decide_true, decide_false, Nat.reduceMul, Nat.zero_mul, Nat.one_mul, Nat.mul_one, hb, Bool.not_true, w64s (show j < 1000000000 by omega)]
          refine hR _ _ ⟨i', j + 1, zs, hz, by omega, by omega, by omega, ?_, ?_, rfl, h1⟩
          · rw [wo_take hx, if_pos hxt, List.append_nil]; exact hzt
          · have h5 := congrArg (List.drop 1) hzd
            simpa [List.drop_drop] using h5
        · have hb : (x == t) = false := by simpa using hxt
          obtain ⟨y, hy⟩ : ∃ y, zs[i']? = some y := ⟨_, List.getElem?_eq_getElem (by omega)⟩
          obtain ⟨p', f1, -⟩ := hrow.at0 i' y hy
          rw [ixS_of 1 m 0 _ _ none .i64 i' (by omega), Nat.zero_add, Nat.mul_one] at f1
          cases f1
          have g := (sat_get h1).1
          simp only [RS, List.cons_append, List.nil_append, Option.isNone_some, Option.isNone_none, Option.isSome_some, Option.isSome_none, Nat.zero_add, Nat.add_zero, Nat.reduceAdd, List.getElem?_cons_zero, List.getElem?_cons_succ, List.length_cons, List.length_nil, List.all_cons, List.all_nil, Bool.and_self, Bool.and_true, Bool.true_and, Option.bind_some, Nat.reduceLeDiff, Nat.reduceEqDiff, Nat.le_refl, and_self, if_true, if_false, List.drop_zero, List.drop_succ_cons, List.take_zero, List.take_succ_cons, List.take_nil, List.drop_nil, true_and, and_true, decide_true, decide_false, Nat.reduceMul, Nat.zero_mul, Nat.one_mul, Nat.mul_one, hb, Bool.not_false, ixS_of 1 m 0 _ _ none .i64 i' (show i' < xs.length by omega), g, w64s (show j < 1000000000 by omega), w64s (show i' < 1000000000 by omega)]
          rw [stO_1 _ _ _ _ _ _ _ hrw rfl rfl (by simp; omega)]
          simp only [RS, List.cons_append, List.nil_append, Option.isNone_some, Option.isNone_none, Option.isSome_some, Option.isSome_none, Nat.zero_add, Nat.add_zero, Nat.reduceAdd, List.getElem?_cons_zero, List.getElem?_cons_succ, List.length_cons, List.length_nil, List.all_cons, List.all_nil, Bool.and_self, Bool.and_true, Bool.true_and, Option.bind_some, Nat.reduceLeDiff, Nat.reduceEqDiff, Nat.le_refl, and_self, if_true, if_false, List.drop_zero, List.drop_succ_cons, List.take_zero, List.take_succ_cons, List.take_nil, List.drop_nil, true_and, and_true, decide_true, decide_false, Nat.reduceMul, Nat.zero_mul, Nat.one_mul, Nat.mul_one, w64s (show j < 1000000000 by omega), w64s (show i' < 1000000000 by omega)]
          have h2 := sat_put (.cells ((ints zs ++ []).set i' (.int .i64 x)) Ty.int kk) h1
          rw [ints_set _ _ _ _ (by omega)] at h2 ⊢
          refine hR _ _ ⟨i' + 1, j + 1, zs.set i' x, by simpa using hz, by omega, by omega, by omega, ?_, ?_, rfl, h2⟩
          · rw [wo_take hx, if_neg hxt, ← hzt, List.take_succ_eq_append_getElem (by simp; omega)]
            rw [List.take_set_of_le (by omega)]
            simp
          · rw [List.drop_set_of_lt (by omega)]
            have h5 := congrArg (List.drop 1) hzd
            simpa [List.drop_drop] using h5
      · have hje : j = xs.length := by omega
        subst hje
        have hd : decide ((xs.length : Int) < (xs.length : Int)) = false := by simp
        have hi' : i' = (wo t xs).length := by
          have h5 := congrArg List.length hzt
          rw [List.take_length, List.length_take] at h5
          omega
        have g := (sat_get h1).1
        have hz0 : Nat.beq (xs.length - i') 0 = false := by
          cases hq : Nat.beq (xs.length - i') 0 with
          | false => rfl
          | true => rw [Nat.beq_eq] at hq; omega
        have hle : Nat.ble (i' + (xs.length - i')) (ints zs ++ []).length = true := by
          rw [Nat.ble_eq]; simp; omega
        simp only [RS, List.cons_append, List.nil_append, Option.isNone_some, Option.isNone_none, Option.isSome_some, Option.isSome_none, Nat.zero_add, Nat.add_zero, Nat.reduceAdd, List.getElem?_cons_zero, List.getElem?_cons_succ, List.length_cons, List.length_nil, List.all_cons, List.all_nil, Bool.and_self, Bool.and_true, Bool.true_and, Option.bind_some, Nat.reduceLeDiff, Nat.reduceEqDiff, Nat.le_refl, and_self, if_true, if_false, List.drop_zero, List.drop_succ_cons, List.take_zero, List.take_succ_cons, List.take_nil, List.drop_nil, true_and, and_true, decide_true, decide_false, Nat.reduceMul, Nat.zero_mul, Nat.one_mul, Nat.mul_one, hd, slcS_lo (show i' ≤ xs.length by omega) (Nat.le_refl xs.length) (show i' < xs.length by omega)]
        simp only [clrS, g, hz0, cond_false, hrw, hle, Bool.true_and, cond_true, RS, List.cons_append, List.nil_append, Option.isNone_some, Option.isNone_none, Option.isSome_some, Option.isSome_none, Nat.zero_add, Nat.add_zero, Nat.reduceAdd, List.getElem?_cons_zero, List.getElem?_cons_succ, List.length_cons, List.length_nil, List.all_cons, List.all_nil, Bool.and_self, Bool.and_true, Bool.true_and, Option.bind_some, Nat.reduceLeDiff, Nat.reduceEqDiff, Nat.le_refl, and_self, if_true, if_false, List.drop_zero, List.drop_succ_cons, List.take_zero, List.take_succ_cons, List.take_nil, List.drop_nil, true_and, and_true, decide_true, decide_false, Nat.reduceMul, Nat.zero_mul, Nat.one_mul, Nat.mul_one, slcS_hi (show i' ≤ xs.length by omega) (show 0 < xs.length by omega)]
        have hsp : splice (ints zs ++ []) i' (zrow [.int .i64 0] (xs.length - i')) = ints (wo t xs) ++ (zrow [.int .i64 0] (xs.length - i') ++ []) := by
          rw [splice, List.append_nil, ← List.map_take, hzt, List.take_length]
          congr 1
          congr 1
          rw [List.drop_eq_nil_iff]
          rw [Ab.zrow_length]
          simp; omega
        have h2 := sat_put (.cells (splice (ints zs ++ []) i' (zrow [.int .i64 0] (xs.length - i'))) Ty.int kk) h1
        rw [hsp] at h2
        refine hK _ _ (sat_slice.2 (.inr ⟨m, zrow [.int .i64 0] (xs.length - i') ++ [], kk, ?_, hrw, by simp, ?_⟩))
        · rw [← hi', List.append_nil, Ab.zrow_length]
          congr 1
          simp; omega
        · rw [hsp]
          exact h2
    · rintro s H1 ⟨i', j, zs, a, b, c, d, -⟩; omega
    · rw [wo_take hi, if_pos rfl, List.append_nil, wo_none hno]
end Go.Proofs.YtiolnpeniklhiaaGreatDoor
