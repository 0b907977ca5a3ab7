/- The abstract system: notes that may be, and such as may not; the chapter's examples.
   Conditions: what stands in memory, as each states it. -/
import Derived.Test.YtiolnpeniklhiaaGreatDoorSpec11
namespace Go.Proofs.YtiolnpeniklhiaaGreatDoor
open Go Go.Ab
set_option linter.all false
set_option maxRecDepth 100000

theorem sawS_run {s : SS} {n : NV} (h1 : (valid n.kind && thr n.thread && (!n.oth || thr n.other)) = true) (h2 : (s.seen && decide (n.step < s.step)) = false) :
    sawS s n = (fltS n.kind s n, bif fltS n.kind s n == 0 then { deedS n.kind s n with step := n.step, seen := true } else s) := by
  simp only [sawS, h1, h2, cond_true, cond_false]
theorem saw_yes {s : SS} {n : NV} (h1 : (valid n.kind && thr n.thread && (!n.oth || thr n.other)) = true) (h2 : (s.seen && decide (n.step < s.step)) = false) (h3 : n.kind ≠ 30 ∧ n.kind ≠ 31) (h4 : mayB n.kind s n = true) :
    sawS s n = (0, { thenS n.kind s n with step := n.step, seen := true }) := by
  have e : (n.kind == 30 || n.kind == 31) = false := by simp [h3.1, h3.2]
  have hf : fltS n.kind s n = 0 := by simp only [fltS, e, h4, cond_false, cond_true]
  have hd : deedS n.kind s n = thenS n.kind s n := by simp [deedS, hf]
  rw [sawS_run h1 h2, hf, hd]
  rfl
theorem saw_no {s : SS} {n : NV} (h1 : (valid n.kind && thr n.thread && (!n.oth || thr n.other)) = true) (h2 : (s.seen && decide (n.step < s.step)) = false) (h3 : n.kind ≠ 30 ∧ n.kind ≠ 31) (h4 : mayB n.kind s n = false) :
    sawS s n = (bif decide (n.kind ≤ 5) || n.kind == 32 then 2 else 3, s) := by
  have e : (n.kind == 30 || n.kind == 31) = false := by simp [h3.1, h3.2]
  have hf : fltS n.kind s n = bif decide (n.kind ≤ 5) || n.kind == 32 then 2 else 3 := by simp only [fltS, e, h4, cond_false]
  rw [sawS_run h1 h2, hf]
  cases hc : (decide (n.kind ≤ 5) || n.kind == 32) <;> rfl

section
variable {H : AH} {F : SL} {K : KV}
/-- The chapter's examples. -/
theorem lives37_ok (hs : sat H (NM * F)) (hK : ∀ H', sat H' (NM * F) → K (.bool true) H') : DS Tryz.prog Fi.laybylaw37_lives [] H K := by
  refine use_laybylaw37_lives 0 ?_
  unfold sh_laybylaw37_lives
  simp only [RS, List.cons_append, List.nil_append, Option.isNone_some, Option.isNone_none, Option.isSome_some, Option.isSome_none, Nat.zero_add, Nat.add_zero, Nat.reduceAdd, List.getElem?_cons_zero, List.getElem?_cons_succ, List.length_cons, List.length_nil, List.all_cons, List.all_nil, Bool.and_self, Bool.and_true, Bool.true_and, Option.bind_some, Nat.reduceLeDiff, Nat.reduceEqDiff, Nat.le_refl, and_self, if_true, if_false, List.drop_zero, List.drop_succ_cons, List.take_zero, List.take_succ_cons, List.take_nil, List.drop_nil, true_and, and_true, decide_true, decide_false, Nat.reduceMul, Nat.zero_mul, Nat.one_mul, Nat.mul_one]
  refine New_ok hs fun p H0 h0 => ?_
  have e1 : sawS .zero ⟨0, 1, 16, 1024, 0, 0, 0⟩ = (0, { thenS 16 .zero ⟨0, 1, 16, 1024, 0, 0, 0⟩ with step := 0, seen := true }) := saw_yes rfl rfl (by decide) rfl
  generalize hs1 : ({ thenS 16 .zero ⟨0, 1, 16, 1024, 0, 0, 0⟩ with step := 0, seen := true } : SS) = s1 at e1
  have o1 : s1.ok := by have := sawS_ok (n := ⟨0, 1, 16, 1024, 0, 0, 0⟩) SS.zero_ok; rw [e1] at this; exact this
  have e2 : sawS s1 ⟨0, 2, 16, 1024, 0, 0, 0⟩ = (3, s1) := by rw [← hs1]; exact saw_no rfl rfl (by decide) rfl
  have e3 : sawS s1 ⟨0, 1, 18, 1024, 2, 0, 0⟩ = (0, { thenS 18 s1 ⟨0, 1, 18, 1024, 2, 0, 0⟩ with step := 0, seen := true }) := by rw [← hs1]; exact saw_yes rfl rfl (by decide) rfl
  generalize hs2 : ({ thenS 18 s1 ⟨0, 1, 18, 1024, 2, 0, 0⟩ with step := 0, seen := true } : SS) = s2 at e3
  have o2 : s2.ok := by have := sawS_ok (n := ⟨0, 1, 18, 1024, 2, 0, 0⟩) o1; rw [e3] at this; exact this
  have q2 : s2.q = fun _ => [] := by rw [← hs2, ← hs1]; rfl
  have w2 : s2.ow 1024 = 3 := by rw [← hs2]; rfl
  have st2 : s2.step = 0 := by rw [← hs2]
  have e4 : sawS s2 ⟨0, 3, 1, 8, 0, 0, 0⟩ = (0, { thenS 1 s2 ⟨0, 3, 1, 8, 0, 0, 0⟩ with step := 0, seen := true }) := saw_yes rfl (by rw [st2]; simp) (by decide) (by simp [mayB, q2])
  generalize hs3 : ({ thenS 1 s2 ⟨0, 3, 1, 8, 0, 0, 0⟩ with step := 0, seen := true } : SS) = s3 at e4
  have o3 : s3.ok := by have := sawS_ok (n := ⟨0, 3, 1, 8, 0, 0, 0⟩) o2; rw [e4] at this; exact this
  have q3 : s3.q = upd (fun _ => []) 8 [3] := by rw [← hs3]; simp [thenS, q2]
  have w3 : s3.ow 1024 = 3 := by rw [← hs3]; exact w2
  have st3 : s3.step = 0 := by rw [← hs3]
  have e5 : sawS s3 ⟨0, 4, 1, 8, 0, 0, 0⟩ = (0, { thenS 1 s3 ⟨0, 4, 1, 8, 0, 0, 0⟩ with step := 0, seen := true }) := saw_yes rfl (by rw [st3]; simp) (by decide) (by
    simp only [mayB, q3, Bool.not_eq_true', decide_eq_false_iff_not]
    rintro ⟨a, ha⟩
    by_cases h : a = 8
    · subst h; rw [upd_self] at ha; simp at ha
    · rw [upd_ne _ _ h] at ha; simp at ha)
  generalize hs4 : ({ thenS 1 s3 ⟨0, 4, 1, 8, 0, 0, 0⟩ with step := 0, seen := true } : SS) = s4 at e5
  have o4 : s4.ok := by have := sawS_ok (n := ⟨0, 4, 1, 8, 0, 0, 0⟩) o3; rw [e5] at this; exact this
  have q4 : s4.q 8 = [3, 4] := by rw [← hs4]; simp [thenS, q3, upd]
  have w4 : s4.ow 1024 = 3 := by rw [← hs4]; exact w3
  have st4 : s4.step = 0 := by rw [← hs4]
  have e6 : sawS s4 ⟨0, 5, 2, 8, 4, 0, 0⟩ = (2, s4) := saw_no rfl (by rw [st4]; simp) (by decide) (by simp [mayB, q4, hd1])
  refine Saw_ok (n := ⟨0, 1, 16, 1024, 0, 0, 0⟩) SS.zero_ok (by decide) h0 fun H1 h1 => ?_
  rw [e1] at h1 ⊢
  simp only [RS, List.cons_append, List.nil_append, Option.isNone_some, Option.isNone_none, Option.isSome_some, Option.isSome_none, Nat.zero_add, Nat.add_zero, Nat.reduceAdd, List.getElem?_cons_zero, List.getElem?_cons_succ, List.length_cons, List.length_nil, List.all_cons, List.all_nil, Bool.and_self, Bool.and_true, Bool.true_and, Option.bind_some, Nat.reduceLeDiff, Nat.reduceEqDiff, Nat.le_refl, and_self, if_true, if_false, List.drop_zero, List.drop_succ_cons, List.take_zero, List.take_succ_cons, List.take_nil, List.drop_nil, true_and, and_true, decide_true, decide_false, Nat.reduceMul, Nat.zero_mul, Nat.one_mul, Nat.mul_one]
  refine Saw_ok (n := ⟨0, 2, 16, 1024, 0, 0, 0⟩) o1 (by decide) h1 fun H2 h2 => ?_
  rw [e2] at h2 ⊢
  simp only [RS, List.cons_append, List.nil_append, Option.isNone_some, Option.isNone_none, Option.isSome_some, Option.isSome_none, Nat.zero_add, Nat.add_zero, Nat.reduceAdd, List.getElem?_cons_zero, List.getElem?_cons_succ, List.length_cons, List.length_nil, List.all_cons, List.all_nil, Bool.and_self, Bool.and_true, Bool.true_and, Option.bind_some, Nat.reduceLeDiff, Nat.reduceEqDiff, Nat.le_refl, and_self, if_true, if_false, List.drop_zero, List.drop_succ_cons, List.take_zero, List.take_succ_cons, List.take_nil, List.drop_nil, true_and, and_true, decide_true, decide_false, Nat.reduceMul, Nat.zero_mul, Nat.one_mul, Nat.mul_one]
  refine Saw_ok (n := ⟨0, 1, 18, 1024, 2, 0, 0⟩) o1 (by decide) h2 fun H3 h3 => ?_
  rw [e3] at h3 ⊢
  simp only [RS, List.cons_append, List.nil_append, Option.isNone_some, Option.isNone_none, Option.isSome_some, Option.isSome_none, Nat.zero_add, Nat.add_zero, Nat.reduceAdd, List.getElem?_cons_zero, List.getElem?_cons_succ, List.length_cons, List.length_nil, List.all_cons, List.all_nil, Bool.and_self, Bool.and_true, Bool.true_and, Option.bind_some, Nat.reduceLeDiff, Nat.reduceEqDiff, Nat.le_refl, and_self, if_true, if_false, List.drop_zero, List.drop_succ_cons, List.take_zero, List.take_succ_cons, List.take_nil, List.drop_nil, true_and, and_true, decide_true, decide_false, Nat.reduceMul, Nat.zero_mul, Nat.one_mul, Nat.mul_one]
  refine Saw_ok (n := ⟨0, 3, 1, 8, 0, 0, 0⟩) o2 (by decide) h3 fun H4 h4 => ?_
  rw [e4] at h4 ⊢
  simp only [RS, List.cons_append, List.nil_append, Option.isNone_some, Option.isNone_none, Option.isSome_some, Option.isSome_none, Nat.zero_add, Nat.add_zero, Nat.reduceAdd, List.getElem?_cons_zero, List.getElem?_cons_succ, List.length_cons, List.length_nil, List.all_cons, List.all_nil, Bool.and_self, Bool.and_true, Bool.true_and, Option.bind_some, Nat.reduceLeDiff, Nat.reduceEqDiff, Nat.le_refl, and_self, if_true, if_false, List.drop_zero, List.drop_succ_cons, List.take_zero, List.take_succ_cons, List.take_nil, List.drop_nil, true_and, and_true, decide_true, decide_false, Nat.reduceMul, Nat.zero_mul, Nat.one_mul, Nat.mul_one]
  refine Saw_ok (n := ⟨0, 4, 1, 8, 0, 0, 0⟩) o3 (by decide) h4 fun H5 h5 => ?_
  rw [e5] at h5 ⊢
  simp only [RS, List.cons_append, List.nil_append, Option.isNone_some, Option.isNone_none, Option.isSome_some, Option.isSome_none, Nat.zero_add, Nat.add_zero, Nat.reduceAdd, List.getElem?_cons_zero, List.getElem?_cons_succ, List.length_cons, List.length_nil, List.all_cons, List.all_nil, Bool.and_self, Bool.and_true, Bool.true_and, Option.bind_some, Nat.reduceLeDiff, Nat.reduceEqDiff, Nat.le_refl, and_self, if_true, if_false, List.drop_zero, List.drop_succ_cons, List.take_zero, List.take_succ_cons, List.take_nil, List.drop_nil, true_and, and_true, decide_true, decide_false, Nat.reduceMul, Nat.zero_mul, Nat.one_mul, Nat.mul_one]
  refine Saw_ok (n := ⟨0, 5, 2, 8, 4, 0, 0⟩) o4 (by decide) h5 fun H6 h6 => ?_
  rw [e6] at h6 ⊢
  have b0 : ((0 : Int) == 0) = true := rfl
  have b3 : ((3 : Int) == 3) = true := rfl
  have b2 : ((2 : Int) == 2) = true := rfl
  simp only [RS, List.cons_append, List.nil_append, Option.isNone_some, Option.isNone_none, Option.isSome_some, Option.isSome_none, Nat.zero_add, Nat.add_zero, Nat.reduceAdd, List.getElem?_cons_zero, List.getElem?_cons_succ, List.length_cons, List.length_nil, List.all_cons, List.all_nil, Bool.and_self, Bool.and_true, Bool.true_and, Option.bind_some, Nat.reduceLeDiff, Nat.reduceEqDiff, Nat.le_refl, and_self, if_true, if_false, List.drop_zero, List.drop_succ_cons, List.take_zero, List.take_succ_cons, List.take_nil, List.drop_nil, true_and, and_true, decide_true, decide_false, Nat.reduceMul, Nat.zero_mul, Nat.one_mul, Nat.mul_one, b0, b3, b2]
  refine Mutex_ok o4 h6 ?_
  rw [w4]
  have b4 : ((3 : Int) - 1 == 2) = true := rfl
  simp only [RS, List.cons_append, List.nil_append, Option.isNone_some, Option.isNone_none, Option.isSome_some, Option.isSome_none, Nat.zero_add, Nat.add_zero, Nat.reduceAdd, List.getElem?_cons_zero, List.getElem?_cons_succ, List.length_cons, List.length_nil, List.all_cons, List.all_nil, Bool.and_self, Bool.and_true, Bool.true_and, Option.bind_some, Nat.reduceLeDiff, Nat.reduceEqDiff, Nat.le_refl, and_self, if_true, if_false, List.drop_zero, List.drop_succ_cons, List.take_zero, List.take_succ_cons, List.take_nil, List.drop_nil, true_and, and_true, decide_true, decide_false, Nat.reduceMul, Nat.zero_mul, Nat.one_mul, Nat.mul_one, b0, b3, b2, b4]
  exact hK _ (sat_sub h6)
end
end Go.Proofs.YtiolnpeniklhiaaGreatDoor
