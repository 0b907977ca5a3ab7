/- In each state that notes lead to a writer is alone, one upgradable reader at most reads, nobody reads twice, each thread is in one queue at most, once: the law's run.
   Conditions: what stands in memory, as each states it. -/
import Derived.Test.YtiolnpeniklhiaaDoorSpTurns
import Derived.Test.YtiolnpeniklhiaaDoorSpec12
import Derived.Test.YtiolnpeniklhiaaDoorSpNotes
namespace Go.Proofs.YtiolnpeniklhiaaDoor
open Go Go.Ab
set_option linter.all false
set_option maxRecDepth 100000

/-- The addresses of notes, two each. -/
def adr (l : List NV) (j : Nat) : Option Int := (l[j / 2]?).map fun n => bif j % 2 == 0 then n.addr else n.to
section
variable {H : AH} {F : SL} {K : KV} {p : Nat} {s : SS}
/-- How often a number is in a list. -/
theorem in_ok' {v : Value} {xs : List Int} {t : Int} (hr : RowI H v xs) (hl : xs.length < 1000000) (hK : K (.int .i64 ((xs.count t : Nat) : Int)) H) : DS Tryd.prog Fi.laybylaw37_in [v, .int .i64 t] H K := by
  refine use_laybylaw37_in (xs.length + 2) ?_
  unfold sh_laybylaw37_in
  simp only [RS, List.cons_append, List.nil_append, Option.isNone_some, Option.isNone_none, Option.isSome_some, Option.isSome_none, Nat.zero_add, Nat.add_zero, Nat.reduceAdd, List.getElem?_cons_zero, List.getElem?_cons_succ, List.length_cons, List.length_nil, List.all_cons, List.all_nil, Bool.and_self, Bool.and_true, Bool.true_and, Option.bind_some, Nat.reduceLeDiff, Nat.reduceEqDiff, Nat.le_refl, and_self, if_true, if_false, List.drop_zero, List.drop_succ_cons, List.take_zero, List.take_succ_cons, List.take_nil, List.drop_nil, true_and, and_true, decide_true, decide_false, Nat.reduceMul, Nat.zero_mul, Nat.one_mul, Nat.mul_one]
  refine lp_rule (fun n s H1 => ∃ i : Nat, i ≤ xs.length ∧ xs.length < n + i ∧ s = (v, .int .i64 t, .int .i64 (((xs.take i).count t : Nat) : Int), .int .i64 (i : Int), ()) ∧ H1 = H) ?_ ?_ ⟨0, by omega, by omega, rfl, rfl⟩
  · rintro n s H1 ⟨i, hi, hn, rfl, rfl⟩ R hR
    by_cases hil : i < xs.length
    · have hd : decide ((i : Int) < (xs.length : Int)) = true := by simpa using hil
      obtain ⟨x, hx⟩ : ∃ x, xs[i]? = some x := ⟨_, List.getElem?_eq_getElem hil⟩
      obtain ⟨p, e1, e2⟩ := hr.at0 i x hx
      have hct : (xs.take i).count t ≤ i := Nat.le_trans List.count_le_length (by simp; omega)
      have hsucc : (xs.take (i + 1)).count t = (xs.take i).count t + (if x = t then 1 else 0) := by
        obtain ⟨hl, rfl⟩ := List.getElem?_eq_some_iff.1 hx
        rw [List.take_succ_eq_append_getElem hl, List.count_append, List.count_singleton]
        by_cases h : xs[i] = t <;> simp [h]
      simp only [RS, List.cons_append, List.nil_append, Option.isNone_some, Option.isNone_none, Option.isSome_some, Option.isSome_none, Nat.zero_add, Nat.add_zero, Nat.reduceAdd, List.getElem?_cons_zero, List.getElem?_cons_succ, List.length_cons, List.length_nil, List.all_cons, List.all_nil, Bool.and_self, Bool.and_true, Bool.true_and, Option.bind_some, Nat.reduceLeDiff, Nat.reduceEqDiff, Nat.le_refl, and_self, if_true, if_false, List.drop_zero, List.drop_succ_cons, List.take_zero, List.take_succ_cons, List.take_nil, List.drop_nil, true_and, and_true, decide_true, decide_false, Nat.reduceMul, Nat.zero_mul, Nat.one_mul, Nat.mul_one, hr.len, hd]
      refine jn_of ?_
      simp only [RS, List.cons_append, List.nil_append, Option.isNone_some, Option.isNone_none, Option.isSome_some, Option.isSome_none, Nat.zero_add, Nat.add_zero, Nat.reduceAdd, List.getElem?_cons_zero, List.getElem?_cons_succ, List.length_cons, List.length_nil, List.all_cons, List.all_nil, Bool.and_self, Bool.and_true, Bool.true_and, Option.bind_some, Nat.reduceLeDiff, Nat.reduceEqDiff, Nat.le_refl, and_self, if_true, if_false, List.drop_zero, List.drop_succ_cons, List.take_zero, List.take_succ_cons, List.take_nil, List.drop_nil, true_and, and_true, decide_true, decide_false, Nat.reduceMul, Nat.zero_mul, Nat.one_mul, Nat.mul_one, e1, e2]
      by_cases he : x = t
      · have hb : (x == t) = true := by simpa using he
        simp only [hb, RS, List.cons_append, List.nil_append, Option.isNone_some, Option.isNone_none, Option.isSome_some, Option.isSome_none, Nat.zero_add, Nat.add_zero, Nat.reduceAdd, List.getElem?_cons_zero, List.getElem?_cons_succ, List.length_cons, List.length_nil, List.all_cons, List.all_nil, Bool.and_self, Bool.and_true, Bool.true_and, Option.bind_some, Nat.reduceLeDiff, Nat.reduceEqDiff, Nat.le_refl, and_self, if_true, if_false, List.drop_zero, List.drop_succ_cons, List.take_zero, List.take_succ_cons, List.take_nil, List.drop_nil, true_and, and_true, decide_true, decide_false, Nat.reduceMul, Nat.zero_mul, Nat.one_mul, Nat.mul_one, w64s (show i < 1000000000 by omega), w64s (show (xs.take i).count t < 1000000000 by omega)]
        exact hR _ _ ⟨i + 1, by omega, by omega, by rw [hsucc, if_pos he], rfl⟩
      · have hb : (x == t) = false := by simpa using he
        simp only [hb, RS, List.cons_append, List.nil_append, Option.isNone_some, Option.isNone_none, Option.isSome_some, Option.isSome_none, Nat.zero_add, Nat.add_zero, Nat.reduceAdd, List.getElem?_cons_zero, List.getElem?_cons_succ, List.length_cons, List.length_nil, List.all_cons, List.all_nil, Bool.and_self, Bool.and_true, Bool.true_and, Option.bind_some, Nat.reduceLeDiff, Nat.reduceEqDiff, Nat.le_refl, and_self, if_true, if_false, List.drop_zero, List.drop_succ_cons, List.take_zero, List.take_succ_cons, List.take_nil, List.drop_nil, true_and, and_true, decide_true, decide_false, Nat.reduceMul, Nat.zero_mul, Nat.one_mul, Nat.mul_one, w64s (show i < 1000000000 by omega)]
        exact hR _ _ ⟨i + 1, by omega, by omega, by rw [hsucc, if_neg he]; rfl, rfl⟩
    · have hd : decide ((i : Int) < (xs.length : Int)) = false := by simpa using hil
      rw [List.take_of_length_le (by omega)]
      simp only [RS, List.cons_append, List.nil_append, Option.isNone_some, Option.isNone_none, Option.isSome_some, Option.isSome_none, Nat.zero_add, Nat.add_zero, Nat.reduceAdd, List.getElem?_cons_zero, List.getElem?_cons_succ, List.length_cons, List.length_nil, List.all_cons, List.all_nil, Bool.and_self, Bool.and_true, Bool.true_and, Option.bind_some, Nat.reduceLeDiff, Nat.reduceEqDiff, Nat.le_refl, and_self, if_true, if_false, List.drop_zero, List.drop_succ_cons, List.take_zero, List.take_succ_cons, List.take_nil, List.drop_nil, true_and, and_true, decide_true, decide_false, Nat.reduceMul, Nat.zero_mul, Nat.one_mul, Nat.mul_one, hr.len, hd]
      exact hK
  · rintro s H1 ⟨i, h1, h2, -⟩; omega

/-- The first place of an address. -/
def isFst (l : List NV) (a : Int) (r : Int) : Prop := r = -1 ∨ ∃ j : Nat, r = (j : Int) ∧ adr l j = some a ∧ ∀ i, i < j → adr l i ≠ some a
theorem adr_even {l : List NV} {i : Nat} {n : NV} (h : l[i]? = some n) : adr l (2 * i) = some n.addr := by
  unfold adr
  rw [show 2 * i / 2 = i by omega, h, show 2 * i % 2 = 0 by omega]
  rfl
theorem adr_odd {l : List NV} {i : Nat} {n : NV} (h : l[i]? = some n) : adr l (2 * i + 1) = some n.to := by
  unfold adr
  rw [show (2 * i + 1) / 2 = i by omega, h, show (2 * i + 1) % 2 = 1 by omega]
  rfl
theorem first37_ok {g : Nat} {v : Value} {l : List NV} {a : Int} (hr : RowN H g v l) (hl : l.length < 1000000) (hK : ∀ r, isFst l a r → K (.int .i64 r) H) : DS Tryd.prog Fi.laybylaw37_first [v, .int .u32 a] H K := by
  refine use_laybylaw37_first (l.length + 2) ?_
  unfold sh_laybylaw37_first
  simp only [RS, List.cons_append, List.nil_append, Option.isNone_some, Option.isNone_none, Option.isSome_some, Option.isSome_none, Nat.zero_add, Nat.add_zero, Nat.reduceAdd, List.getElem?_cons_zero, List.getElem?_cons_succ, List.length_cons, List.length_nil, List.all_cons, List.all_nil, Bool.and_self, Bool.and_true, Bool.true_and, Option.bind_some, Nat.reduceLeDiff, Nat.reduceEqDiff, Nat.le_refl, and_self, if_true, if_false, List.drop_zero, List.drop_succ_cons, List.take_zero, List.take_succ_cons, List.take_nil, List.drop_nil, true_and, and_true, decide_true, decide_false, Nat.reduceMul, Nat.zero_mul, Nat.one_mul, Nat.mul_one]
  refine lp_rule (fun n s H1 => ∃ i : Nat, i ≤ l.length ∧ l.length < n + i ∧ (∀ j, j < 2 * i → adr l j ≠ some a) ∧ s = (v, .int .u32 a, .int .i64 (i : Int), ()) ∧ H1 = H) ?_ ?_ ⟨0, by omega, by omega, fun j hj => by omega, rfl, rfl⟩
  · rintro n s H1 ⟨i, hi, hn, hno, rfl, rfl⟩ R hR
    by_cases hil : i < l.length
    · have hd : decide ((i : Int) < (l.length : Int)) = true := by simpa using hil
      obtain ⟨x, hx⟩ : ∃ x, l[i]? = some x := ⟨_, List.getElem?_eq_getElem hil⟩
      obtain ⟨e1, e2, e3, e4⟩ := hr.at0 i x hx
      have hw2 : IntKind.i64.wrap (2 * (i : Int)) = ((2 * i : Nat) : Int) := by rw [w64n (by omega)]; omega
      have hw3 : IntKind.i64.wrap (((2 * i : Nat) : Int) + 1) = ((2 * i + 1 : Nat) : Int) := by rw [w64n (by omega)]; omega
      simp only [RS, List.cons_append, List.nil_append, Option.isNone_some, Option.isNone_none, Option.isSome_some, Option.isSome_none, Nat.zero_add, Nat.add_zero, Nat.reduceAdd, List.getElem?_cons_zero, List.getElem?_cons_succ, List.length_cons, List.length_nil, List.all_cons, List.all_nil, Bool.and_self, Bool.and_true, Bool.true_and, Option.bind_some, Nat.reduceLeDiff, Nat.reduceEqDiff, Nat.le_refl, and_self, if_true, if_false, List.drop_zero, List.drop_succ_cons, List.take_zero, List.take_succ_cons, List.take_nil, List.drop_nil, true_and, and_true, decide_true, decide_false, Nat.reduceMul, Nat.zero_mul, Nat.one_mul, Nat.mul_one, hr.len, hd, e1, e3, e4]
      by_cases ha : x.addr = a
      · have hb : (x.addr == a) = true := by simpa using ha
        simp only [RS, List.cons_append, List.nil_append, Option.isNone_some, Option.isNone_none, Option.isSome_some, Option.isSome_none, Nat.zero_add, Nat.add_zero, Nat.reduceAdd, List.getElem?_cons_zero, List.getElem?_cons_succ, List.length_cons, List.length_nil, List.all_cons, List.all_nil, Bool.and_self, Bool.and_true, Bool.true_and, Option.bind_some, Nat.reduceLeDiff, Nat.reduceEqDiff, Nat.le_refl, and_self, if_true, if_false, List.drop_zero, List.drop_succ_cons, List.take_zero, List.take_succ_cons, List.take_nil, List.drop_nil, true_and, and_true, decide_true, decide_false, Nat.reduceMul, Nat.zero_mul, Nat.one_mul, Nat.mul_one, hb, hw2]
        exact hK _ (.inr ⟨2 * i, rfl, by rw [adr_even hx, ha], hno⟩)
      · have hb : (x.addr == a) = false := by simpa using ha
        simp only [RS, List.cons_append, List.nil_append, Option.isNone_some, Option.isNone_none, Option.isSome_some, Option.isSome_none, Nat.zero_add, Nat.add_zero, Nat.reduceAdd, List.getElem?_cons_zero, List.getElem?_cons_succ, List.length_cons, List.length_nil, List.all_cons, List.all_nil, Bool.and_self, Bool.and_true, Bool.true_and, Option.bind_some, Nat.reduceLeDiff, Nat.reduceEqDiff, Nat.le_refl, and_self, if_true, if_false, List.drop_zero, List.drop_succ_cons, List.take_zero, List.take_succ_cons, List.take_nil, List.drop_nil, true_and, and_true, decide_true, decide_false, Nat.reduceMul, Nat.zero_mul, Nat.one_mul, Nat.mul_one, hb, e1, e4]
        have hno2 : ∀ j, j < 2 * i + 1 → adr l j ≠ some a := fun j hj => by
          by_cases hj2 : j = 2 * i
          · subst hj2; rw [adr_even hx]; simpa using ha
          · exact hno j (by omega)
        by_cases ht : x.to = a
        · have hb2 : (x.to == a) = true := by simpa using ht
          simp only [RS, List.cons_append, List.nil_append, Option.isNone_some, Option.isNone_none, Option.isSome_some, Option.isSome_none, Nat.zero_add, Nat.add_zero, Nat.reduceAdd, List.getElem?_cons_zero, List.getElem?_cons_succ, List.length_cons, List.length_nil, List.all_cons, List.all_nil, Bool.and_self, Bool.and_true, Bool.true_and, Option.bind_some, Nat.reduceLeDiff, Nat.reduceEqDiff, Nat.le_refl, and_self, if_true, if_false, List.drop_zero, List.drop_succ_cons, List.take_zero, List.take_succ_cons, List.take_nil, List.drop_nil, true_and, and_true, decide_true, decide_false, Nat.reduceMul, Nat.zero_mul, Nat.one_mul, Nat.mul_one, hb2, hw2, hw3]
          exact hK _ (.inr ⟨2 * i + 1, rfl, by rw [adr_odd hx, ht], hno2⟩)
        · have hb2 : (x.to == a) = false := by simpa using ht
          simp only [RS, List.cons_append, List.nil_append, Option.isNone_some, Option.isNone_none, Option.isSome_some, Option.isSome_none, Nat.zero_add, Nat.add_zero, Nat.reduceAdd, List.getElem?_cons_zero, List.getElem?_cons_succ, List.length_cons, List.length_nil, List.all_cons, List.all_nil, Bool.and_self, Bool.and_true, Bool.true_and, Option.bind_some, Nat.reduceLeDiff, Nat.reduceEqDiff, Nat.le_refl, and_self, if_true, if_false, List.drop_zero, List.drop_succ_cons, List.take_zero, List.take_succ_cons, List.take_nil, List.drop_nil, true_and, and_true, decide_true, decide_false, Nat.reduceMul, Nat.zero_mul, Nat.one_mul, Nat.mul_one, hb2, w64s (show i < 1000000000 by omega)]
          refine hR _ _ ⟨i + 1, by omega, by omega, fun j hj => ?_, rfl, rfl⟩
          by_cases hj2 : j = 2 * i + 1
          · subst hj2; rw [adr_odd hx]; simpa using ht
          · exact hno2 j (by omega)
    · have hd : decide ((i : Int) < (l.length : Int)) = false := by simpa using hil
      simp only [RS, List.cons_append, List.nil_append, Option.isNone_some, Option.isNone_none, Option.isSome_some, Option.isSome_none, Nat.zero_add, Nat.add_zero, Nat.reduceAdd, List.getElem?_cons_zero, List.getElem?_cons_succ, List.length_cons, List.length_nil, List.all_cons, List.all_nil, Bool.and_self, Bool.and_true, Bool.true_and, Option.bind_some, Nat.reduceLeDiff, Nat.reduceEqDiff, Nat.le_refl, and_self, if_true, if_false, List.drop_zero, List.drop_succ_cons, List.take_zero, List.take_succ_cons, List.take_nil, List.drop_nil, true_and, and_true, decide_true, decide_false, Nat.reduceMul, Nat.zero_mul, Nat.one_mul, Nat.mul_one, hr.len, hd]
      exact hK _ (.inl rfl)
  · rintro s H1 ⟨i, h1, h2, -⟩; omega
theorem count_nodup {xs : List Int} (h : xs.Nodup) (t : Int) : xs.count t = if t ∈ xs then 1 else 0 := by
  induction xs with
  | nil => simp
  | cons x xs ih =>
    rw [List.nodup_cons] at h
    rw [List.count_cons, ih h.2]
    by_cases hx : x = t
    · subst hx
      simp [h.1]
    · have : (x == t) = false := by simpa using hx
      simp [this, Ne.symm hx]
/-- How many were counted: one at most, of an address that came. -/
def cntOK (s : SS) (l : List NV) (t : Int) (j c : Nat) : Prop := c = 0 ∨ (c = 1 ∧ ∃ b, t ∈ s.q b ∧ ∃ i, i < j ∧ adr l i = some b)
theorem cnt_step {l : List NV} {t a : Int} {j c : Nat} (ho : s.ok) (h : cntOK s l t j c) (hj : adr l j = some a) (hf : ∀ i, i < j → adr l i ≠ some a) : cntOK s l t (j + 1) (c + (s.q a).count t) := by
  rw [count_nodup (ho.qn a)]
  by_cases ht : t ∈ s.q a
  · rw [if_pos ht]
    rcases h with rfl | ⟨-, b, hb, i, hi, hib⟩
    · exact .inr ⟨rfl, a, ht, j, by omega, hj⟩
    · have := ho.qu _ _ _ hb ht
      subst this
      exact absurd hib (hf i hi)
  · rw [if_neg ht, Nat.add_zero]
    rcases h with rfl | ⟨rfl, b, hb, i, hi, hib⟩
    · exact .inl rfl
    · exact .inr ⟨rfl, b, hb, i, by omega, hib⟩
theorem cnt_skip {l : List NV} {t : Int} {j c : Nat} (h : cntOK s l t j c) : cntOK s l t (j + 1) c := by
  rcases h with rfl | ⟨rfl, b, hb, i, hi, hib⟩
  · exact .inl rfl
  · exact .inr ⟨rfl, b, hb, i, by omega, hib⟩
theorem fst_at {l : List NV} {a : Int} {r : Int} {j : Nat} (h : isFst l a r) (hb : (r == (j : Int)) = true) : ∀ i, i < j → adr l i ≠ some a := by
  have hr : r = (j : Int) := by simpa using hb
  rcases h with rfl | ⟨i, rfl, -, h3⟩
  · omega
  · have : i = j := by omega
    subst this; exact h3
theorem srt_rise (rd : List Int) : (srt rd).Pairwise (· < ·) := by
  have h : ∀ n, (srtN rd n).Pairwise (· < ·) ∧ ∀ x ∈ srtN rd n, x < (n : Int) := by
    intro n
    induction n with
    | zero => exact ⟨by simp [srtN], by simp [srtN]⟩
    | succ n ih =>
      rw [srtN_succ]
      split
      · refine ⟨List.pairwise_append.2 ⟨ih.1, by simp, fun a ha b hb => by simp at hb; subst hb; exact ih.2 a ha⟩, fun x hx => ?_⟩
        rcases List.mem_append.1 hx with h | h
        · have := ih.2 x h; omega
        · simp at h; omega
      · rw [List.append_nil]
        exact ⟨ih.1, fun x hx => by have := ih.2 x hx; omega⟩
  exact (h 64).1
theorem mem_srt {rd : List Int} {t : Int} (h : t ∈ srt rd) : t ∈ rd := by
  unfold srt srtN at h
  rw [List.mem_filter] at h
  simpa using h.2
theorem told_cell {H : AH} {v : Value} {xs : List Int} {F : SL} (h : sat H (toldA v xs * F)) : cellsL v = [v] ∧ plain v = true := by
  rcases sat_told.1 h with ⟨rfl, -, -⟩ | ⟨m, k, rfl, -⟩ <;> exact ⟨rfl, rfl⟩
theorem SpecsSafe_ds {g : Nat} {v : Value} {l : List NV} (hr : ∀ H', sat H' F → RowN H' g v l) (hv : ∀ n ∈ l, n.kind < 256) (hs : sat H (NM * F)) (hK : ∀ H', K (.bool true) H') : DS Tryd.prog Fi.laybylaw37_SpecsSafe [v] H K := by
  refine use_laybylaw37_SpecsSafe 400 ?_
  unfold sh_laybylaw37_SpecsSafe
  have row := hr _ (sat_sub hs)
  simp only [RS, List.cons_append, List.nil_append, Option.isNone_some, Option.isNone_none, Option.isSome_some, Option.isSome_none, Nat.zero_add, Nat.add_zero, Nat.reduceAdd, List.getElem?_cons_zero, List.getElem?_cons_succ, List.length_cons, List.length_nil, List.all_cons, List.all_nil, Bool.and_self, Bool.and_true, Bool.true_and, Option.bind_some, Nat.reduceLeDiff, Nat.reduceEqDiff, Nat.le_refl, and_self, if_true, if_false, List.drop_zero, List.drop_succ_cons, List.take_zero, List.take_succ_cons, List.take_nil, List.drop_nil, true_and, and_true, decide_true, decide_false, Nat.reduceMul, Nat.zero_mul, Nat.one_mul, Nat.mul_one, row.len]
  by_cases hl : l.length > 300
  · have hd : decide ((l.length : Int) > 300) = true := decide_eq_true (by omega)
    simp only [RS, List.cons_append, List.nil_append, Option.isNone_some, Option.isNone_none, Option.isSome_some, Option.isSome_none, Nat.zero_add, Nat.add_zero, Nat.reduceAdd, List.getElem?_cons_zero, List.getElem?_cons_succ, List.length_cons, List.length_nil, List.all_cons, List.all_nil, Bool.and_self, Bool.and_true, Bool.true_and, Option.bind_some, Nat.reduceLeDiff, Nat.reduceEqDiff, Nat.le_refl, and_self, if_true, if_false, List.drop_zero, List.drop_succ_cons, List.take_zero, List.take_succ_cons, List.take_nil, List.drop_nil, true_and, and_true, decide_true, decide_false, Nat.reduceMul, Nat.zero_mul, Nat.one_mul, Nat.mul_one, hd]
    refine lives37_ok hs fun H' _ => ?_
    exact hK _
  have hd : decide ((l.length : Int) > 300) = false := decide_eq_false (by omega)
  simp only [RS, List.cons_append, List.nil_append, Option.isNone_some, Option.isNone_none, Option.isSome_some, Option.isSome_none, Nat.zero_add, Nat.add_zero, Nat.reduceAdd, List.getElem?_cons_zero, List.getElem?_cons_succ, List.length_cons, List.length_nil, List.all_cons, List.all_nil, Bool.and_self, Bool.and_true, Bool.true_and, Option.bind_some, Nat.reduceLeDiff, Nat.reduceEqDiff, Nat.le_refl, and_self, if_true, if_false, List.drop_zero, List.drop_succ_cons, List.take_zero, List.take_succ_cons, List.take_nil, List.drop_nil, true_and, and_true, decide_true, decide_false, Nat.reduceMul, Nat.zero_mul, Nat.one_mul, Nat.mul_one, hd]
  refine New_ok hs fun p H0 h0 => ?_
  refine lp_rule (n := 400) (fun n t H2 => ∃ (i : Nat) (s : SS), i ≤ l.length ∧ l.length < n + i ∧ s.ok ∧ t = (v, ptr p, Value.int .i64 (i : Int), ()) ∧ sat H2 (StA p s * (NM * F))) ?_ ?_
    ⟨0, _, by omega, by omega, SS.zero_ok, rfl, h0⟩
  · rintro n t H2 ⟨i, s, hi, hn, ho, rfl, h2⟩ R hR
    have row2 := hr _ (sat_sub (sat_sub h2))
    by_cases hil : i < l.length
    · have hd2 : decide ((i : Int) < (l.length : Int)) = true := decide_eq_true (by omega)
      obtain ⟨x, hx⟩ : ∃ x, l[i]? = some x := ⟨_, List.getElem?_eq_getElem hil⟩
      have hxk := hv x (List.mem_of_getElem? hx)
      obtain ⟨e1, e2, e3, e4⟩ := row2.at0 i x hx
      simp only [RS, List.cons_append, List.nil_append, Option.isNone_some, Option.isNone_none, Option.isSome_some, Option.isSome_none, Nat.zero_add, Nat.add_zero, Nat.reduceAdd, List.getElem?_cons_zero, List.getElem?_cons_succ, List.length_cons, List.length_nil, List.all_cons, List.all_nil, Bool.and_self, Bool.and_true, Bool.true_and, Option.bind_some, Nat.reduceLeDiff, Nat.reduceEqDiff, Nat.le_refl, and_self, if_true, if_false, List.drop_zero, List.drop_succ_cons, List.take_zero, List.take_succ_cons, List.take_nil, List.drop_nil, true_and, and_true, decide_true, decide_false, Nat.reduceMul, Nat.zero_mul, Nat.one_mul, Nat.mul_one, row2.len, hd2, e1, e2]
      refine Saw_ok (n := x) ho hxk h2 fun H3 h3 => ?_
      have ho3 := sawS_ok (n := x) ho
      generalize (sawS s x).2 = s3 at h3 ho3
      have row3 := hr _ (sat_sub (sat_sub h3))
      obtain ⟨e1, e2, e3, e4⟩ := row3.at0 i x hx
      simp only [RS, List.cons_append, List.nil_append, Option.isNone_some, Option.isNone_none, Option.isSome_some, Option.isSome_none, Nat.zero_add, Nat.add_zero, Nat.reduceAdd, List.getElem?_cons_zero, List.getElem?_cons_succ, List.length_cons, List.length_nil, List.all_cons, List.all_nil, Bool.and_self, Bool.and_true, Bool.true_and, Option.bind_some, Nat.reduceLeDiff, Nat.reduceEqDiff, Nat.le_refl, and_self, if_true, if_false, List.drop_zero, List.drop_succ_cons, List.take_zero, List.take_succ_cons, List.take_nil, List.drop_nil, true_and, and_true, decide_true, decide_false, Nat.reduceMul, Nat.zero_mul, Nat.one_mul, Nat.mul_one, e1, e3]
      refine Rw_ok ho3 h3 fun w H4 h4 => ?_
      have hlo := ho3.lk x.addr
      generalize s3.lk x.addr = y at h4 hlo
      have hw1 := told_cell h4
      have hpl : ([w, .int .i64 (y.up - 1), .int .i64 (y.cl - 1), .bool y.wr] : List Value).all plain = true := by simp only [List.all_cons, hw1.2, plain_int, plain_bool, List.all_nil, Bool.and_self]
      have es : ∀ H2, stO 4 H4.nx 0 (rwV w y) H2 (some (.cells [.slice none 0 0, .int .i64 0, .int .i64 0, .bool false] Ty.specs_Rw .fix)) = some (.tuple ⟨[]⟩, H2.put H4.nx (.cells [w, .int .i64 (y.up - 1), .int .i64 (y.cl - 1), .bool y.wr] Ty.specs_Rw .fix)) := fun H2 =>
        (stO_N 4 _ _ _ _ _ _ _ rfl rfl hpl (by simp)).trans (by simp [splice])
      have h5 := sat_put (.cells [w, .int .i64 (y.up - 1), .int .i64 (y.cl - 1), .bool y.wr] Ty.specs_Rw .fix) (sat_new (.cells [.slice none 0 0, .int .i64 0, .int .i64 0, .bool false] Ty.specs_Rw .fix) h4)
      generalize hB : (H4.new (.cells [.slice none 0 0, .int .i64 0, .int .i64 0, .bool false] Ty.specs_Rw .fix)).put H4.nx (.cells [w, .int .i64 (y.up - 1), .int .i64 (y.cl - 1), .bool y.wr] Ty.specs_Rw .fix) = B at h5
      have gB := (sat_get h5).1
      have rowR := told_row (sat_of_eq h5 (sep_left_comm _ _ _))
      have gn : (H4.new (.cells [.slice none 0 0, .int .i64 0, .int .i64 0, .bool false] Ty.specs_Rw .fix)).get H4.nx = some (.cells [.slice none 0 0, .int .i64 0, .int .i64 0, .bool false] Ty.specs_Rw .fix) := by rw [AH.get_new, if_pos rfl]
      have hsl : (srt y.rd).length ≤ 64 := srtN_len y.rd 64
      have inner : lp (fun (s127 : Value × Value × Value × Value × Value × Unit) H128 R129 => bn (fa 0 (Prod.fst (Prod.snd (Prod.snd (Prod.snd s127))))) fun v130 => bn (ld1 v130 H128) fun v131 => bn (lenT (TypeDesc.slice Ty.int) v131 H128) fun v132 => bn (binT BinOp.lss none false (Prod.fst (Prod.snd (Prod.snd (Prod.snd (Prod.snd s127))))) v132) fun v133 => cnd v133 (bn (fa 0 (Prod.fst (Prod.snd (Prod.snd (Prod.snd s127))))) fun v134 => bn (ld1 v134 H128) fun v135 => bn (ixS 1 v135 (Prod.fst (Prod.snd (Prod.snd (Prod.snd (Prod.snd s127)))))) fun v136 => bn (ld1 v136 H128) fun v137 => bn (fa 0 (Prod.fst (Prod.snd (Prod.snd (Prod.snd s127))))) fun v138 => bn (ld1 v138 H128) fun v139 => bn (binT BinOp.sub none false (Prod.fst (Prod.snd (Prod.snd (Prod.snd (Prod.snd s127))))) (.int .i64 1)) fun v140 => bn (ixS 1 v139 v140) fun v141 => bn (ld1 v141 H128) fun v142 => bn (binT BinOp.leq none false v137 v142) fun v143 => cnd v143 (bn (some (.bool false)) fun v144 => K v144 H128) (bn (binT BinOp.add none false (Prod.fst (Prod.snd (Prod.snd (Prod.snd (Prod.snd s127))))) (.int .i64 1)) fun v145 => R129 (Prod.fst s127, Prod.fst (Prod.snd s127), Prod.fst (Prod.snd (Prod.snd s127)), Prod.fst (Prod.snd (Prod.snd (Prod.snd s127))), v145, ()) H128)) (bn (binT BinOp.add none false (Prod.fst (Prod.snd (Prod.snd s127))) (.int .i64 1)) fun v146 => R (Prod.fst s127, Prod.fst (Prod.snd s127), v146, ()) H128)) 400 (v, ptr p, Value.int .i64 (i : Int), ptr H4.nx, Value.int .i64 1, ()) B := by
        refine lp_rule (n := 400) (fun n t H2 => ∃ k : Nat, 1 ≤ k ∧ (k ≤ (srt y.rd).length ∨ k = 1) ∧ (srt y.rd).length + 1 < n + k ∧ t = (v, ptr p, Value.int .i64 (i : Int), ptr H4.nx, Value.int .i64 (k : Int), ()) ∧ H2 = B) ?_ ?_
          ⟨1, by omega, .inr rfl, by omega, rfl, rfl⟩
        · rintro n t H2 ⟨k, hk1, hk2, hk3, rfl, rfl⟩ R' hR'
          by_cases hkl : k < (srt y.rd).length
          · have hd3 : decide ((k : Int) < ((srt y.rd).length : Int)) = true := decide_eq_true (by omega)
            obtain ⟨a, ha⟩ : ∃ a, (srt y.rd)[k]? = some a := ⟨_, List.getElem?_eq_getElem hkl⟩
            obtain ⟨b, hb⟩ : ∃ b, (srt y.rd)[k - 1]? = some b := ⟨_, List.getElem?_eq_getElem (by omega)⟩
            obtain ⟨q1, f1, f2⟩ := rowR.at0 k a ha
            obtain ⟨q2, f3, f4⟩ := rowR.at0 (k - 1) b hb
            have hk4 : IntKind.i64.wrap ((k : Int) - 1) = ((k - 1 : Nat) : Int) := by rw [w64n (by omega)]; omega
            have hlt : b < a := by
              have := List.pairwise_iff_getElem.1 (srt_rise y.rd) (k - 1) k (by omega) hkl (by omega)
              rw [(List.getElem?_eq_some_iff.1 ha).2, (List.getElem?_eq_some_iff.1 hb).2] at this
              exact this
            have hd4 : decide (a ≤ b) = false := decide_eq_false (by omega)
            simp only [RS, List.cons_append, List.nil_append, Option.isNone_some, Option.isNone_none, Option.isSome_some, Option.isSome_none, Nat.zero_add, Nat.add_zero, Nat.reduceAdd, List.getElem?_cons_zero, List.getElem?_cons_succ, List.length_cons, List.length_nil, List.all_cons, List.all_nil, Bool.and_self, Bool.and_true, Bool.true_and, Option.bind_some, Nat.reduceLeDiff, Nat.reduceEqDiff, Nat.le_refl, and_self, if_true, if_false, List.drop_zero, List.drop_succ_cons, List.take_zero, List.take_succ_cons, List.take_nil, List.drop_nil, true_and, and_true, decide_true, decide_false, Nat.reduceMul, Nat.zero_mul, Nat.one_mul, Nat.mul_one, gB, rowR.len, hd3, f1, f2, hk4, f3, f4, hd4, w64s (show k < 1000000000 by omega)]
            exact hR' _ _ ⟨k + 1, by omega, .inl (by omega), by omega, rfl, rfl⟩
          · have hd3 : decide ((k : Int) < ((srt y.rd).length : Int)) = false := decide_eq_false (by omega)
            simp only [RS, List.cons_append, List.nil_append, Option.isNone_some, Option.isNone_none, Option.isSome_some, Option.isSome_none, Nat.zero_add, Nat.add_zero, Nat.reduceAdd, List.getElem?_cons_zero, List.getElem?_cons_succ, List.length_cons, List.length_nil, List.all_cons, List.all_nil, Bool.and_self, Bool.and_true, Bool.true_and, Option.bind_some, Nat.reduceLeDiff, Nat.reduceEqDiff, Nat.le_refl, and_self, if_true, if_false, List.drop_zero, List.drop_succ_cons, List.take_zero, List.take_succ_cons, List.take_nil, List.drop_nil, true_and, and_true, decide_true, decide_false, Nat.reduceMul, Nat.zero_mul, Nat.one_mul, Nat.mul_one, gB, rowR.len, hd3, w64s (show i < 1000000000 by omega)]
            exact hR _ _ ⟨i + 1, s3, by omega, by omega, ho3, rfl, sat_sub (sat_sub h5)⟩
        · rintro t H2 ⟨k, h1, h2, h3, -⟩; omega
      simp only [RS, List.cons_append, List.nil_append, Option.isNone_some, Option.isNone_none, Option.isSome_some, Option.isSome_none, Nat.zero_add, Nat.add_zero, Nat.reduceAdd, List.getElem?_cons_zero, List.getElem?_cons_succ, List.length_cons, List.length_nil, List.all_cons, List.all_nil, Bool.and_self, Bool.and_true, Bool.true_and, Option.bind_some, Nat.reduceLeDiff, Nat.reduceEqDiff, Nat.le_refl, and_self, if_true, if_false, List.drop_zero, List.drop_succ_cons, List.take_zero, List.take_succ_cons, List.take_nil, List.drop_nil, true_and, and_true, decide_true, decide_false, Nat.reduceMul, Nat.zero_mul, Nat.one_mul, Nat.mul_one, gn, es, hB, gB]
      have finish : ∀ b : Bool, b = decide (y.up - 1 ≥ 0) → (b = true → y.up - 1 ∉ srt y.rd) := fun b hb hbt hm => by
        rw [hb, decide_eq_true_iff] at hbt
        exact hlo.no (by omega) (mem_srt hm)
      cases hwr : y.wr with
      | true =>
        obtain ⟨a1, a2, a3⟩ := hlo.wr hwr
        have hcl := hlo.cl
        have c1 : decide (y.cl - 1 < 0) = false := decide_eq_false (by omega)
        have c2 : decide (((srt y.rd).length : Int) > 0) = false := by
          have : srt y.rd = [] := by rw [a2]; exact srtN_nil 64
          rw [this]; rfl
        have c3 : decide (y.up - 1 ≥ 0) = false := decide_eq_false (by omega)
        simp only [hwr] at gB inner
        simp only [RS, List.cons_append, List.nil_append, Option.isNone_some, Option.isNone_none, Option.isSome_some, Option.isSome_none, Nat.zero_add, Nat.add_zero, Nat.reduceAdd, List.getElem?_cons_zero, List.getElem?_cons_succ, List.length_cons, List.length_nil, List.all_cons, List.all_nil, Bool.and_self, Bool.and_true, Bool.true_and, Option.bind_some, Nat.reduceLeDiff, Nat.reduceEqDiff, Nat.le_refl, and_self, if_true, if_false, List.drop_zero, List.drop_succ_cons, List.take_zero, List.take_succ_cons, List.take_nil, List.drop_nil, true_and, and_true, decide_true, decide_false, Nat.reduceMul, Nat.zero_mul, Nat.one_mul, Nat.mul_one, gB, c1, c2, c3, rowR.len]
        exact inner
      | false =>
        simp only [hwr] at gB inner
        cases hup : decide (y.up - 1 ≥ 0) with
        | false =>
          simp only [RS, List.cons_append, List.nil_append, Option.isNone_some, Option.isNone_none, Option.isSome_some, Option.isSome_none, Nat.zero_add, Nat.add_zero, Nat.reduceAdd, List.getElem?_cons_zero, List.getElem?_cons_succ, List.length_cons, List.length_nil, List.all_cons, List.all_nil, Bool.and_self, Bool.and_true, Bool.true_and, Option.bind_some, Nat.reduceLeDiff, Nat.reduceEqDiff, Nat.le_refl, and_self, if_true, if_false, List.drop_zero, List.drop_succ_cons, List.take_zero, List.take_succ_cons, List.take_nil, List.drop_nil, true_and, and_true, decide_true, decide_false, Nat.reduceMul, Nat.zero_mul, Nat.one_mul, Nat.mul_one, gB, hup]
          exact inner
        | true =>
          have hc0 : (srt y.rd).count (y.up - 1) = 0 := List.count_eq_zero.2 (finish _ rfl hup)
          simp only [RS, List.cons_append, List.nil_append, Option.isNone_some, Option.isNone_none, Option.isSome_some, Option.isSome_none, Nat.zero_add, Nat.add_zero, Nat.reduceAdd, List.getElem?_cons_zero, List.getElem?_cons_succ, List.length_cons, List.length_nil, List.all_cons, List.all_nil, Bool.and_self, Bool.and_true, Bool.true_and, Option.bind_some, Nat.reduceLeDiff, Nat.reduceEqDiff, Nat.le_refl, and_self, if_true, if_false, List.drop_zero, List.drop_succ_cons, List.take_zero, List.take_succ_cons, List.take_nil, List.drop_nil, true_and, and_true, decide_true, decide_false, Nat.reduceMul, Nat.zero_mul, Nat.one_mul, Nat.mul_one, gB, hup]
          refine in_ok' rowR (by have := srtN_len y.rd 64; unfold srt; omega) ?_
          rw [hc0]
          have c4 : decide ((((0 : Nat) : Int)) > 0) = false := rfl
          simp only [RS, List.cons_append, List.nil_append, Option.isNone_some, Option.isNone_none, Option.isSome_some, Option.isSome_none, Nat.zero_add, Nat.add_zero, Nat.reduceAdd, List.getElem?_cons_zero, List.getElem?_cons_succ, List.length_cons, List.length_nil, List.all_cons, List.all_nil, Bool.and_self, Bool.and_true, Bool.true_and, Option.bind_some, Nat.reduceLeDiff, Nat.reduceEqDiff, Nat.le_refl, and_self, if_true, if_false, List.drop_zero, List.drop_succ_cons, List.take_zero, List.take_succ_cons, List.take_nil, List.drop_nil, true_and, and_true, decide_true, decide_false, Nat.reduceMul, Nat.zero_mul, Nat.one_mul, Nat.mul_one, c4]
          exact inner
    · have hd2 : decide ((i : Int) < (l.length : Int)) = false := decide_eq_false (by omega)
      simp only [RS, List.cons_append, List.nil_append, Option.isNone_some, Option.isNone_none, Option.isSome_some, Option.isSome_none, Nat.zero_add, Nat.add_zero, Nat.reduceAdd, List.getElem?_cons_zero, List.getElem?_cons_succ, List.length_cons, List.length_nil, List.all_cons, List.all_nil, Bool.and_self, Bool.and_true, Bool.true_and, Option.bind_some, Nat.reduceLeDiff, Nat.reduceEqDiff, Nat.le_refl, and_self, if_true, if_false, List.drop_zero, List.drop_succ_cons, List.take_zero, List.take_succ_cons, List.take_nil, List.drop_nil, true_and, and_true, decide_true, decide_false, Nat.reduceMul, Nat.zero_mul, Nat.one_mul, Nat.mul_one, row2.len, hd2]
      clear hn hR hi hil hd2
      refine lp_rule (n := 400) (fun n t H3 => ∃ k : Nat, k ≤ 64 ∧ 64 < n + k ∧ t = (v, ptr p, Value.int .i64 (k : Int), ()) ∧ sat H3 (StA p s * (NM * F))) ?_ ?_
        ⟨0, by omega, by omega, rfl, h2⟩
      · rintro n t H3 ⟨k, hk, hn, rfl, h3⟩ R hR
        by_cases hkl : k < 64
        · have hd3 : decide ((k : Int) < 64) = true := decide_eq_true (by omega)
          simp only [RS, List.cons_append, List.nil_append, Option.isNone_some, Option.isNone_none, Option.isSome_some, Option.isSome_none, Nat.zero_add, Nat.add_zero, Nat.reduceAdd, List.getElem?_cons_zero, List.getElem?_cons_succ, List.length_cons, List.length_nil, List.all_cons, List.all_nil, Bool.and_self, Bool.and_true, Bool.true_and, Option.bind_some, Nat.reduceLeDiff, Nat.reduceEqDiff, Nat.le_refl, and_self, if_true, if_false, List.drop_zero, List.drop_succ_cons, List.take_zero, List.take_succ_cons, List.take_nil, List.drop_nil, true_and, and_true, decide_true, decide_false, Nat.reduceMul, Nat.zero_mul, Nat.one_mul, Nat.mul_one, hd3]
          refine lp_rule (n := 400) (fun n t H4 => ∃ (i c : Nat), i ≤ l.length ∧ l.length < n + i ∧ cntOK s l (k : Int) (2 * i) c ∧ t = (v, ptr p, Value.int .i64 (k : Int), Value.int .i64 (c : Int), Value.int .i64 (i : Int), ()) ∧ sat H4 (StA p s * (NM * F))) ?_ ?_
            ⟨0, 0, by omega, by omega, .inl rfl, rfl, h3⟩
          · rintro n t H4 ⟨i, c, hi, hn', hc, rfl, h4⟩ R' hR'
            have row4 := hr _ (sat_sub (sat_sub h4))
            have hc1 : c ≤ 1 := by rcases hc with rfl | ⟨rfl, -⟩ <;> omega
            by_cases hil : i < l.length
            · have hd4 : decide ((i : Int) < (l.length : Int)) = true := decide_eq_true (by omega)
              obtain ⟨x, hx⟩ : ∃ x, l[i]? = some x := ⟨_, List.getElem?_eq_getElem hil⟩
              obtain ⟨e1, e2, e3, e4⟩ := row4.at0 i x hx
              have hw2 : IntKind.i64.wrap (2 * (i : Int)) = ((2 * i : Nat) : Int) := by rw [w64n (by omega)]; omega
              have hw3 : IntKind.i64.wrap (((2 * i : Nat) : Int) + 1) = ((2 * i + 1 : Nat) : Int) := by rw [w64n (by omega)]; omega
              have hwa : ∀ a b : Nat, a < 1000 → b < 1000 → IntKind.i64.wrap ((a : Int) + (b : Int)) = ((a + b : Nat) : Int) := fun a b h1 h2 => by rw [w64n (by omega)]; omega
              simp only [RS, List.cons_append, List.nil_append, Option.isNone_some, Option.isNone_none, Option.isSome_some, Option.isSome_none, Nat.zero_add, Nat.add_zero, Nat.reduceAdd, List.getElem?_cons_zero, List.getElem?_cons_succ, List.length_cons, List.length_nil, List.all_cons, List.all_nil, Bool.and_self, Bool.and_true, Bool.true_and, Option.bind_some, Nat.reduceLeDiff, Nat.reduceEqDiff, Nat.le_refl, and_self, if_true, if_false, List.drop_zero, List.drop_succ_cons, List.take_zero, List.take_succ_cons, List.take_nil, List.drop_nil, true_and, and_true, decide_true, decide_false, Nat.reduceMul, Nat.zero_mul, Nat.one_mul, Nat.mul_one, row4.len, hd4]
              refine jn_rule (fun t H5 => ∃ c : Nat, cntOK s l (k : Int) (2 * (i + 1)) c ∧ t = (v, ptr p, Value.int .i64 (k : Int), Value.int .i64 (c : Int), Value.int .i64 (i : Int), ()) ∧ sat H5 (StA p s * (NM * F))) ?_ ?_
              · rintro t H5 ⟨c, hc, rfl, h5⟩
                simp only [RS, List.cons_append, List.nil_append, Option.isNone_some, Option.isNone_none, Option.isSome_some, Option.isSome_none, Nat.zero_add, Nat.add_zero, Nat.reduceAdd, List.getElem?_cons_zero, List.getElem?_cons_succ, List.length_cons, List.length_nil, List.all_cons, List.all_nil, Bool.and_self, Bool.and_true, Bool.true_and, Option.bind_some, Nat.reduceLeDiff, Nat.reduceEqDiff, Nat.le_refl, and_self, if_true, if_false, List.drop_zero, List.drop_succ_cons, List.take_zero, List.take_succ_cons, List.take_nil, List.drop_nil, true_and, and_true, decide_true, decide_false, Nat.reduceMul, Nat.zero_mul, Nat.one_mul, Nat.mul_one, w64s (show i < 1000000000 by omega)]
                exact hR' _ _ ⟨i + 1, c, by omega, by omega, hc, rfl, h5⟩
              intro R2 hR2
              refine jn_rule (fun t H5 => ∃ c : Nat, cntOK s l (k : Int) (2 * i + 1) c ∧ t = (v, ptr p, Value.int .i64 (k : Int), Value.int .i64 (c : Int), Value.int .i64 (i : Int), ()) ∧ sat H5 (StA p s * (NM * F))) ?_ ?_
              · rintro t H5 ⟨c, hc, rfl, h5⟩
                have hc1 : c ≤ 1 := by rcases hc with rfl | ⟨rfl, -⟩ <;> omega
                have row5 := hr _ (sat_sub (sat_sub h5))
                obtain ⟨e1, e2, e3, e4⟩ := row5.at0 i x hx
                simp only [RS, List.cons_append, List.nil_append, Option.isNone_some, Option.isNone_none, Option.isSome_some, Option.isSome_none, Nat.zero_add, Nat.add_zero, Nat.reduceAdd, List.getElem?_cons_zero, List.getElem?_cons_succ, List.length_cons, List.length_nil, List.all_cons, List.all_nil, Bool.and_self, Bool.and_true, Bool.true_and, Option.bind_some, Nat.reduceLeDiff, Nat.reduceEqDiff, Nat.le_refl, and_self, if_true, if_false, List.drop_zero, List.drop_succ_cons, List.take_zero, List.take_succ_cons, List.take_nil, List.drop_nil, true_and, and_true, decide_true, decide_false, Nat.reduceMul, Nat.zero_mul, Nat.one_mul, Nat.mul_one, e1, e4]
                refine first37_ok row5 (by omega) fun r hfr => ?_
                simp only [RS, List.cons_append, List.nil_append, Option.isNone_some, Option.isNone_none, Option.isSome_some, Option.isSome_none, Nat.zero_add, Nat.add_zero, Nat.reduceAdd, List.getElem?_cons_zero, List.getElem?_cons_succ, List.length_cons, List.length_nil, List.all_cons, List.all_nil, Bool.and_self, Bool.and_true, Bool.true_and, Option.bind_some, Nat.reduceLeDiff, Nat.reduceEqDiff, Nat.le_refl, and_self, if_true, if_false, List.drop_zero, List.drop_succ_cons, List.take_zero, List.take_succ_cons, List.take_nil, List.drop_nil, true_and, and_true, decide_true, decide_false, Nat.reduceMul, Nat.zero_mul, Nat.one_mul, Nat.mul_one, hw2, hw3]
                cases hb : (r == ((2 * i + 1 : Nat) : Int)) with
                | true =>
                  simp only [RS, List.cons_append, List.nil_append, Option.isNone_some, Option.isNone_none, Option.isSome_some, Option.isSome_none, Nat.zero_add, Nat.add_zero, Nat.reduceAdd, List.getElem?_cons_zero, List.getElem?_cons_succ, List.length_cons, List.length_nil, List.all_cons, List.all_nil, Bool.and_self, Bool.and_true, Bool.true_and, Option.bind_some, Nat.reduceLeDiff, Nat.reduceEqDiff, Nat.le_refl, and_self, if_true, if_false, List.drop_zero, List.drop_succ_cons, List.take_zero, List.take_succ_cons, List.take_nil, List.drop_nil, true_and, and_true, decide_true, decide_false, Nat.reduceMul, Nat.zero_mul, Nat.one_mul, Nat.mul_one, e1, e4]
                  refine Queue_ok ho h5 fun w H6 h6 => ?_
                  have hct := cnt_step ho hc (adr_odd hx) (fst_at hfr hb)
                  refine in_ok' (told_row h6) (by have := ho.qlen x.to; omega) ?_
                  have hcc : (s.q x.to).count (k : Int) ≤ 64 := Nat.le_trans List.count_le_length (ho.qlen _)
                  simp only [RS, List.cons_append, List.nil_append, Option.isNone_some, Option.isNone_none, Option.isSome_some, Option.isSome_none, Nat.zero_add, Nat.add_zero, Nat.reduceAdd, List.getElem?_cons_zero, List.getElem?_cons_succ, List.length_cons, List.length_nil, List.all_cons, List.all_nil, Bool.and_self, Bool.and_true, Bool.true_and, Option.bind_some, Nat.reduceLeDiff, Nat.reduceEqDiff, Nat.le_refl, and_self, if_true, if_false, List.drop_zero, List.drop_succ_cons, List.take_zero, List.take_succ_cons, List.take_nil, List.drop_nil, true_and, and_true, decide_true, decide_false, Nat.reduceMul, Nat.zero_mul, Nat.one_mul, Nat.mul_one, hwa c _ (by omega) (show (s.q x.to).count (k : Int) < 1000 by omega)]
                  exact hR2 _ _ ⟨_, hct, rfl, sat_sub h6⟩
                | false =>
                  simp only [RS, List.cons_append, List.nil_append, Option.isNone_some, Option.isNone_none, Option.isSome_some, Option.isSome_none, Nat.zero_add, Nat.add_zero, Nat.reduceAdd, List.getElem?_cons_zero, List.getElem?_cons_succ, List.length_cons, List.length_nil, List.all_cons, List.all_nil, Bool.and_self, Bool.and_true, Bool.true_and, Option.bind_some, Nat.reduceLeDiff, Nat.reduceEqDiff, Nat.le_refl, and_self, if_true, if_false, List.drop_zero, List.drop_succ_cons, List.take_zero, List.take_succ_cons, List.take_nil, List.drop_nil, true_and, and_true, decide_true, decide_false, Nat.reduceMul, Nat.zero_mul, Nat.one_mul, Nat.mul_one]
                  exact hR2 _ _ ⟨c, cnt_skip hc, rfl, h5⟩
              intro R3 hR3
              simp only [RS, List.cons_append, List.nil_append, Option.isNone_some, Option.isNone_none, Option.isSome_some, Option.isSome_none, Nat.zero_add, Nat.add_zero, Nat.reduceAdd, List.getElem?_cons_zero, List.getElem?_cons_succ, List.length_cons, List.length_nil, List.all_cons, List.all_nil, Bool.and_self, Bool.and_true, Bool.true_and, Option.bind_some, Nat.reduceLeDiff, Nat.reduceEqDiff, Nat.le_refl, and_self, if_true, if_false, List.drop_zero, List.drop_succ_cons, List.take_zero, List.take_succ_cons, List.take_nil, List.drop_nil, true_and, and_true, decide_true, decide_false, Nat.reduceMul, Nat.zero_mul, Nat.one_mul, Nat.mul_one, e1, e3]
              refine first37_ok row4 (by omega) fun r hfr => ?_
              simp only [RS, List.cons_append, List.nil_append, Option.isNone_some, Option.isNone_none, Option.isSome_some, Option.isSome_none, Nat.zero_add, Nat.add_zero, Nat.reduceAdd, List.getElem?_cons_zero, List.getElem?_cons_succ, List.length_cons, List.length_nil, List.all_cons, List.all_nil, Bool.and_self, Bool.and_true, Bool.true_and, Option.bind_some, Nat.reduceLeDiff, Nat.reduceEqDiff, Nat.le_refl, and_self, if_true, if_false, List.drop_zero, List.drop_succ_cons, List.take_zero, List.take_succ_cons, List.take_nil, List.drop_nil, true_and, and_true, decide_true, decide_false, Nat.reduceMul, Nat.zero_mul, Nat.one_mul, Nat.mul_one, hw2]
              cases hb : (r == ((2 * i : Nat) : Int)) with
              | true =>
                simp only [RS, List.cons_append, List.nil_append, Option.isNone_some, Option.isNone_none, Option.isSome_some, Option.isSome_none, Nat.zero_add, Nat.add_zero, Nat.reduceAdd, List.getElem?_cons_zero, List.getElem?_cons_succ, List.length_cons, List.length_nil, List.all_cons, List.all_nil, Bool.and_self, Bool.and_true, Bool.true_and, Option.bind_some, Nat.reduceLeDiff, Nat.reduceEqDiff, Nat.le_refl, and_self, if_true, if_false, List.drop_zero, List.drop_succ_cons, List.take_zero, List.take_succ_cons, List.take_nil, List.drop_nil, true_and, and_true, decide_true, decide_false, Nat.reduceMul, Nat.zero_mul, Nat.one_mul, Nat.mul_one, e1, e3]
                refine Queue_ok ho h4 fun w H6 h6 => ?_
                have hct := cnt_step ho hc (adr_even hx) (fst_at hfr hb)
                refine in_ok' (told_row h6) (by have := ho.qlen x.addr; omega) ?_
                have hcc : (s.q x.addr).count (k : Int) ≤ 64 := Nat.le_trans List.count_le_length (ho.qlen _)
                simp only [RS, List.cons_append, List.nil_append, Option.isNone_some, Option.isNone_none, Option.isSome_some, Option.isSome_none, Nat.zero_add, Nat.add_zero, Nat.reduceAdd, List.getElem?_cons_zero, List.getElem?_cons_succ, List.length_cons, List.length_nil, List.all_cons, List.all_nil, Bool.and_self, Bool.and_true, Bool.true_and, Option.bind_some, Nat.reduceLeDiff, Nat.reduceEqDiff, Nat.le_refl, and_self, if_true, if_false, List.drop_zero, List.drop_succ_cons, List.take_zero, List.take_succ_cons, List.take_nil, List.drop_nil, true_and, and_true, decide_true, decide_false, Nat.reduceMul, Nat.zero_mul, Nat.one_mul, Nat.mul_one, hwa c _ (by omega) (show (s.q x.addr).count (k : Int) < 1000 by omega)]
                exact hR3 _ _ ⟨_, hct, rfl, sat_sub h6⟩
              | false =>
                simp only [RS, List.cons_append, List.nil_append, Option.isNone_some, Option.isNone_none, Option.isSome_some, Option.isSome_none, Nat.zero_add, Nat.add_zero, Nat.reduceAdd, List.getElem?_cons_zero, List.getElem?_cons_succ, List.length_cons, List.length_nil, List.all_cons, List.all_nil, Bool.and_self, Bool.and_true, Bool.true_and, Option.bind_some, Nat.reduceLeDiff, Nat.reduceEqDiff, Nat.le_refl, and_self, if_true, if_false, List.drop_zero, List.drop_succ_cons, List.take_zero, List.take_succ_cons, List.take_nil, List.drop_nil, true_and, and_true, decide_true, decide_false, Nat.reduceMul, Nat.zero_mul, Nat.one_mul, Nat.mul_one]
                exact hR3 _ _ ⟨c, cnt_skip hc, rfl, h4⟩
            · have hd4 : decide ((i : Int) < (l.length : Int)) = false := decide_eq_false (by omega)
              have hd5 : decide ((c : Int) > 1) = false := decide_eq_false (by omega)
              simp only [RS, List.cons_append, List.nil_append, Option.isNone_some, Option.isNone_none, Option.isSome_some, Option.isSome_none, Nat.zero_add, Nat.add_zero, Nat.reduceAdd, List.getElem?_cons_zero, List.getElem?_cons_succ, List.length_cons, List.length_nil, List.all_cons, List.all_nil, Bool.and_self, Bool.and_true, Bool.true_and, Option.bind_some, Nat.reduceLeDiff, Nat.reduceEqDiff, Nat.le_refl, and_self, if_true, if_false, List.drop_zero, List.drop_succ_cons, List.take_zero, List.take_succ_cons, List.take_nil, List.drop_nil, true_and, and_true, decide_true, decide_false, Nat.reduceMul, Nat.zero_mul, Nat.one_mul, Nat.mul_one, row4.len, hd4, hd5, w64s (show k < 1000000000 by omega)]
              exact hR _ _ ⟨k + 1, by omega, by omega, rfl, h4⟩
          · rintro t H4 ⟨i, c, h1, h2, -⟩; omega
        · have hd3 : decide ((k : Int) < 64) = false := decide_eq_false (by omega)
          simp only [RS, List.cons_append, List.nil_append, Option.isNone_some, Option.isNone_none, Option.isSome_some, Option.isSome_none, Nat.zero_add, Nat.add_zero, Nat.reduceAdd, List.getElem?_cons_zero, List.getElem?_cons_succ, List.length_cons, List.length_nil, List.all_cons, List.all_nil, Bool.and_self, Bool.and_true, Bool.true_and, Option.bind_some, Nat.reduceLeDiff, Nat.reduceEqDiff, Nat.le_refl, and_self, if_true, if_false, List.drop_zero, List.drop_succ_cons, List.take_zero, List.take_succ_cons, List.take_nil, List.drop_nil, true_and, and_true, decide_true, decide_false, Nat.reduceMul, Nat.zero_mul, Nat.one_mul, Nat.mul_one, hd3]
          refine lives37_ok (sat_sub h3) fun H4 _ => ?_
          exact hK _
      · rintro t H3 ⟨k, h1, h2, -⟩; omega
  · rintro t H2 ⟨i, s, h1, h2, -⟩; omega
end
end Go.Proofs.YtiolnpeniklhiaaDoor
