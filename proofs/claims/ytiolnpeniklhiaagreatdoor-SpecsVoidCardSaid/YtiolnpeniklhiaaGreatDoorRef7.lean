/- The document's answer: a note seen; what is told.
   Conditions: what stands in memory, as each states it. -/
import Derived.Test.YtiolnpeniklhiaaGreatDoorRef6
namespace Go.Proofs.YtiolnpeniklhiaaGreatDoor
open Go Go.Ab
set_option linter.all false
set_option maxRecDepth 100000
section
variable {H : AH} {F : SL} {K : KV} {s : SS} {r : Nat} {L : PL} {n : NV}
theorem ref_head {s' : SS} (h : sat H (RefL r s L * F)) (hf : s' = { s with step := n.step, seen := true }) : ∃ vp vw, H.get r = some (hdR s vp vw) ∧ sat ((H.put r (hdR { s with seen := true } vp vw)).put r (hdR s' vp vw)) (RefL r s' L * F) := by
  obtain ⟨vp, vw, ws, h1, h2⟩ := sat_RefL.1 h
  refine ⟨vp, vw, (sat_get h2).1, sat_RefL.2 ⟨vp, vw, ws, ?_, ?_⟩⟩
  · subst hf
    exact ⟨h1.nd, h1.rg, h1.no, h1.wnd, h1.wrg, h1.wa⟩
  · have h3 := sat_put (hdR s' vp vw) (sat_put (hdR { s with seen := true } vp vw) h2)
    have e : bigS (plS s') L = bigS (plS s) L := by subst hf; rfl
    rw [e]; exact h3
theorem oth_eq (n : NV) : n.oth = ((decide ((n.kind : Int) ≥ 2) && decide ((n.kind : Int) ≤ 4)) || ((n.kind : Int) == 18)) := by
  unfold NV.oth
  by_cases h2 : n.kind = 2
  · rw [h2]; rfl
  by_cases h3 : n.kind = 3
  · rw [h3]; rfl
  by_cases h4 : n.kind = 4
  · rw [h4]; rfl
  have e : ((n.kind : Int) == 18) = (n.kind == 18) := by
    by_cases h : n.kind = 18
    · rw [h]; rfl
    · exact (show ((n.kind : Int) == 18) = false from kindn (j := 18) h).trans (beq_eq_false_iff_ne.2 h).symm
  have e2 : (decide ((n.kind : Int) ≥ 2) && decide ((n.kind : Int) ≤ 4)) = false := by
    by_cases h5 : (n.kind : Int) ≥ 2
    · rw [decide_eq_false (show ¬ ((n.kind : Int) ≤ 4) by omega), Bool.and_false]
    · rw [decide_eq_false h5, Bool.false_and]
  rw [e, e2, beq_eq_false_iff_ne.2 h2, beq_eq_false_iff_ne.2 h3, beq_eq_false_iff_ne.2 h4]
  simp
theorem RSaw_ok (ho : s.ok) (hk : n.kind < 256) (ha : 0 ≤ n.addr ∧ n.addr < 4294967296) (hto : 0 ≤ n.to ∧ n.to < 4294967296) (hs : sat H (RefL r s L * F)) (hK : ∀ H' L', sat H' (RefL r (sawS s n).2 L' * F) → K (.int .i64 (sawS s n).1) H') :
    DS Tryz.prog Fi.laybyref37_State_Saw [ptr r, n.rval] H K := by
  refine use_laybyref37_State_Saw 0 ?_
  unfold sh_laybyref37_State_Saw
  obtain ⟨h1, gn⟩ := rnote_new (n := n) hs
  simp only [RS, List.cons_append, List.nil_append, Option.isNone_some, Option.isNone_none, Option.isSome_some, Option.isSome_none, Nat.zero_add, Nat.add_zero, Nat.reduceAdd, List.getElem?_cons_zero, List.getElem?_cons_succ, List.length_cons, List.length_nil, List.all_cons, List.all_nil, Bool.and_self, Bool.and_true, Bool.true_and, Option.bind_some, Nat.reduceLeDiff, Nat.reduceEqDiff, Nat.le_refl, and_self, if_true, if_false, List.drop_zero, List.drop_succ_cons, List.take_zero, List.take_succ_cons, List.take_nil, List.drop_nil, true_and, and_true, decide_true, decide_false, Nat.reduceMul, Nat.zero_mul, Nat.one_mul, Nat.mul_one, gn]
  refine RName_ok hk fun b hb => ?_
  have hb2 : binT .eql (some (.one .str)) true (.string b) (.string ⟨⟨[]⟩⟩) = some (.bool (!valid n.kind)) := by rw [← hb]; rfl
  simp only [RS, List.cons_append, List.nil_append, Option.isNone_some, Option.isNone_none, Option.isSome_some, Option.isSome_none, Nat.zero_add, Nat.add_zero, Nat.reduceAdd, List.getElem?_cons_zero, List.getElem?_cons_succ, List.length_cons, List.length_nil, List.all_cons, List.all_nil, Bool.and_self, Bool.and_true, Bool.true_and, Option.bind_some, Nat.reduceLeDiff, Nat.reduceEqDiff, Nat.le_refl, and_self, if_true, if_false, List.drop_zero, List.drop_succ_cons, List.take_zero, List.take_succ_cons, List.take_nil, List.drop_nil, true_and, and_true, decide_true, decide_false, Nat.reduceMul, Nat.zero_mul, Nat.one_mul, Nat.mul_one, hb2]
  cases hv : valid n.kind with
  | false =>
    have e : sawS s n = (1, s) := by simp only [sawS, hv, Bool.false_and, cond_false]
    rw [e] at hK
    simp only [RS, List.cons_append, List.nil_append, Option.isNone_some, Option.isNone_none, Option.isSome_some, Option.isSome_none, Nat.zero_add, Nat.add_zero, Nat.reduceAdd, List.getElem?_cons_zero, List.getElem?_cons_succ, List.length_cons, List.length_nil, List.all_cons, List.all_nil, Bool.and_self, Bool.and_true, Bool.true_and, Option.bind_some, Nat.reduceLeDiff, Nat.reduceEqDiff, Nat.le_refl, and_self, if_true, if_false, List.drop_zero, List.drop_succ_cons, List.take_zero, List.take_succ_cons, List.take_nil, List.drop_nil, true_and, and_true, decide_true, decide_false, Nat.reduceMul, Nat.zero_mul, Nat.one_mul, Nat.mul_one, Bool.not_false]
    exact hK _ L (rnote_drop (n := n) h1)
  | true =>
    simp only [RS, List.cons_append, List.nil_append, Option.isNone_some, Option.isNone_none, Option.isSome_some, Option.isSome_none, Nat.zero_add, Nat.add_zero, Nat.reduceAdd, List.getElem?_cons_zero, List.getElem?_cons_succ, List.length_cons, List.length_nil, List.all_cons, List.all_nil, Bool.and_self, Bool.and_true, Bool.true_and, Option.bind_some, Nat.reduceLeDiff, Nat.reduceEqDiff, Nat.le_refl, and_self, if_true, if_false, List.drop_zero, List.drop_succ_cons, List.take_zero, List.take_succ_cons, List.take_nil, List.drop_nil, true_and, and_true, decide_true, decide_false, Nat.reduceMul, Nat.zero_mul, Nat.one_mul, Nat.mul_one, Bool.not_true, gn]
    refine rthreaded_ok ?_
    cases ht : thr n.thread with
    | false =>
      have e : sawS s n = (1, s) := by simp only [sawS, hv, ht, Bool.false_and, Bool.and_false, cond_false]
      rw [e] at hK
      simp only [RS, List.cons_append, List.nil_append, Option.isNone_some, Option.isNone_none, Option.isSome_some, Option.isSome_none, Nat.zero_add, Nat.add_zero, Nat.reduceAdd, List.getElem?_cons_zero, List.getElem?_cons_succ, List.length_cons, List.length_nil, List.all_cons, List.all_nil, Bool.and_self, Bool.and_true, Bool.true_and, Option.bind_some, Nat.reduceLeDiff, Nat.reduceEqDiff, Nat.le_refl, and_self, if_true, if_false, List.drop_zero, List.drop_succ_cons, List.take_zero, List.take_succ_cons, List.take_nil, List.drop_nil, true_and, and_true, decide_true, decide_false, Nat.reduceMul, Nat.zero_mul, Nat.one_mul, Nat.mul_one, Bool.not_false]
      exact hK _ L (rnote_drop (n := n) h1)
    | true =>
      have hth := thr_iff.1 ht
      have rest : (!n.oth || thr n.other) = true → sawS s n = (bif s.seen && decide (n.step < s.step) then (4, s)
          else (fltS n.kind s n, bif fltS n.kind s n == 0 then { deedS n.kind s n with step := n.step, seen := true } else s)) := fun h => by simp only [sawS, hv, ht, h, Bool.and_self, cond_true]
      obtain ⟨vp, vw, ws, hrr, h2⟩ := sat_RefL.1 h1
      have gr := (sat_get h2).1
      simp only [hdR] at gr
      have hoe := oth_eq n
      -- whoever else is spoken of
      have bad : n.oth = true → thr n.other = false → sawS s n = (1, s) := fun h3 h4 => by simp only [sawS, hv, ht, h3, h4, Bool.not_true, Bool.or_self, Bool.and_false, cond_false]
      simp only [RS, List.cons_append, List.nil_append, Option.isNone_some, Option.isNone_none, Option.isSome_some, Option.isSome_none, Nat.zero_add, Nat.add_zero, Nat.reduceAdd, List.getElem?_cons_zero, List.getElem?_cons_succ, List.length_cons, List.length_nil, List.all_cons, List.all_nil, Bool.and_self, Bool.and_true, Bool.true_and, Option.bind_some, Nat.reduceLeDiff, Nat.reduceEqDiff, Nat.le_refl, and_self, if_true, if_false, List.drop_zero, List.drop_succ_cons, List.take_zero, List.take_succ_cons, List.take_nil, List.drop_nil, true_and, and_true, decide_true, decide_false, Nat.reduceMul, Nat.zero_mul, Nat.one_mul, Nat.mul_one, Bool.not_true, gn]
      cases hot : thr n.other <;> cases hc2 : decide ((n.kind : Int) ≥ 2) <;> cases hc4 : decide ((n.kind : Int) ≤ 4) <;> cases hc18 : ((n.kind : Int) == 18) <;> (try simp only [RS, List.cons_append, List.nil_append, Option.isNone_some, Option.isNone_none, Option.isSome_some, Option.isSome_none, Nat.zero_add, Nat.add_zero, Nat.reduceAdd, List.getElem?_cons_zero, List.getElem?_cons_succ, List.length_cons, List.length_nil, List.all_cons, List.all_nil, Bool.and_self, Bool.and_true, Bool.true_and, Option.bind_some, Nat.reduceLeDiff, Nat.reduceEqDiff, Nat.le_refl, and_self, if_true, if_false, List.drop_zero, List.drop_succ_cons, List.take_zero, List.take_succ_cons, List.take_nil, List.drop_nil, true_and, and_true, decide_true, decide_false, Nat.reduceMul, Nat.zero_mul, Nat.one_mul, Nat.mul_one, gn, hc4, hc18])
      all_goals try (refine rthreaded_ok ?_; simp only [hot, RS, List.cons_append, List.nil_append, Option.isNone_some, Option.isNone_none, Option.isSome_some, Option.isSome_none, Nat.zero_add, Nat.add_zero, Nat.reduceAdd, List.getElem?_cons_zero, List.getElem?_cons_succ, List.length_cons, List.length_nil, List.all_cons, List.all_nil, Bool.and_self, Bool.and_true, Bool.true_and, Option.bind_some, Nat.reduceLeDiff, Nat.reduceEqDiff, Nat.le_refl, and_self, if_true, if_false, List.drop_zero, List.drop_succ_cons, List.take_zero, List.take_succ_cons, List.take_nil, List.drop_nil, true_and, and_true, decide_true, decide_false, Nat.reduceMul, Nat.zero_mul, Nat.one_mul, Nat.mul_one, Bool.not_false, Bool.not_true])
      all_goals first
        | (have hoth : n.oth = true := by rw [hoe, hc2, hc4, hc18]; rfl
           have e := bad hoth hot
           rw [e] at hK
           exact hK _ L (rnote_drop (n := n) h1))
        | skip
      all_goals
        have hoo : (!n.oth || thr n.other) = true := by rw [hoe, hc2, hc4, hc18, hot]; rfl
        have hnok : n.ok := ⟨hth, fun h => by rw [h] at hoo; exact thr_iff.1 (by simpa using hoo)⟩
        refine jn_rule (fun t H' => t = (ptr r, ptr H.nx, ()) ∧ H' = H.new (.cells n.rrow Ty.laybyref11_Note .fix) ∧ (s.seen && decide (n.step < s.step)) = false) ?_ ?_
        · rintro t H' ⟨rfl, rfl, hst⟩
          rw [rest hoo, hst, cond_false] at hK
          refine jn_rule (fun t H' => ∃ L', t = (ptr r, ptr H.nx, Value.int .i64 (fltS n.kind s n), ()) ∧ sat H' (RefL r (deedS n.kind s n) L' * (pts H.nx (.cells n.rrow Ty.laybyref11_Note .fix) * F))) ?_ ?_
          · rintro t H' ⟨L', rfl, h3⟩
            have g3 := (sat_get (sat_sub h3)).1
            simp only [RS, List.cons_append, List.nil_append, Option.isNone_some, Option.isNone_none, Option.isSome_some, Option.isSome_none, Nat.zero_add, Nat.add_zero, Nat.reduceAdd, List.getElem?_cons_zero, List.getElem?_cons_succ, List.length_cons, List.length_nil, List.all_cons, List.all_nil, Bool.and_self, Bool.and_true, Bool.true_and, Option.bind_some, Nat.reduceLeDiff, Nat.reduceEqDiff, Nat.le_refl, and_self, if_true, if_false, List.drop_zero, List.drop_succ_cons, List.take_zero, List.take_succ_cons, List.take_nil, List.drop_nil, true_and, and_true, decide_true, decide_false, Nat.reduceMul, Nat.zero_mul, Nat.one_mul, Nat.mul_one]
            cases hf : (fltS n.kind s n == 0) with
            | true =>
              simp only [hf, cond_true] at hK
              obtain ⟨vp, vw, gq, h7⟩ := ref_head (n := n) h3 rfl
              have g8 : (H'.put r (hdR { deedS n.kind s n with seen := true } vp vw)).get H.nx = some (.cells n.rrow Ty.laybyref11_Note .fix) := by
                by_cases e : H.nx = r
                · rw [e] at g3; rw [g3] at gq; simp [hdR] at gq
                · rw [AH.get_put, if_neg e]; exact g3
              simp only [hdR] at gq h7 g8
              simp only [RS, List.cons_append, List.nil_append, Option.isNone_some, Option.isNone_none, Option.isSome_some, Option.isSome_none, Nat.zero_add, Nat.add_zero, Nat.reduceAdd, List.getElem?_cons_zero, List.getElem?_cons_succ, List.length_cons, List.length_nil, List.all_cons, List.all_nil, Bool.and_self, Bool.and_true, Bool.true_and, Option.bind_some, Nat.reduceLeDiff, Nat.reduceEqDiff, Nat.le_refl, and_self, if_true, if_false, List.drop_zero, List.drop_succ_cons, List.take_zero, List.take_succ_cons, List.take_nil, List.drop_nil, true_and, and_true, decide_true, decide_false, Nat.reduceMul, Nat.zero_mul, Nat.one_mul, Nat.mul_one, gq, g8, get_put_eq]
              exact hK _ L' (rnote_drop (n := n) h7)
            | false =>
              simp only [hf, cond_false] at hK
              have hde : deedS n.kind s n = s := by simp only [deedS, hf, cond_false]
              rw [hde] at h3
              simp only [RS, List.cons_append, List.nil_append, Option.isNone_some, Option.isNone_none, Option.isSome_some, Option.isSome_none, Nat.zero_add, Nat.add_zero, Nat.reduceAdd, List.getElem?_cons_zero, List.getElem?_cons_succ, List.length_cons, List.length_nil, List.all_cons, List.all_nil, Bool.and_self, Bool.and_true, Bool.true_and, Option.bind_some, Nat.reduceLeDiff, Nat.reduceEqDiff, Nat.le_refl, and_self, if_true, if_false, List.drop_zero, List.drop_succ_cons, List.take_zero, List.take_succ_cons, List.take_nil, List.drop_nil, true_and, and_true, decide_true, decide_false, Nat.reduceMul, Nat.zero_mul, Nat.one_mul, Nat.mul_one]
              exact hK _ L' (rnote_drop (n := n) h3)
          · intro R hR
            have fin := fun (H' : AH) (L' : PL) (h : sat H' (RefL r (deedS n.kind s n) L' * (pts H.nx (.cells n.rrow Ty.laybyref11_Note .fix) * F))) => hR (ptr r, ptr H.nx, Value.int .i64 (fltS n.kind s n), ()) H' ⟨L', rfl, h⟩
            have hvk : (1 ≤ n.kind ∧ n.kind ≤ 5) ∨ (16 ≤ n.kind ∧ n.kind ≤ 37) := by
              unfold valid at hv
              simpa only [Bool.or_eq_true, Bool.and_eq_true, decide_eq_true_eq] using hv
            simp only [RS, List.cons_append, List.nil_append, Option.isNone_some, Option.isNone_none, Option.isSome_some, Option.isSome_none, Nat.zero_add, Nat.add_zero, Nat.reduceAdd, List.getElem?_cons_zero, List.getElem?_cons_succ, List.length_cons, List.length_nil, List.all_cons, List.all_nil, Bool.and_self, Bool.and_true, Bool.true_and, Option.bind_some, Nat.reduceLeDiff, Nat.reduceEqDiff, Nat.le_refl, and_self, if_true, if_false, List.drop_zero, List.drop_succ_cons, List.take_zero, List.take_succ_cons, List.take_nil, List.drop_nil, true_and, and_true, decide_true, decide_false, Nat.reduceMul, Nat.zero_mul, Nat.one_mul, Nat.mul_one, gn]
            by_cases k5 : (n.kind : Int) ≤ 5
            · simp only [RS, List.cons_append, List.nil_append, Option.isNone_some, Option.isNone_none, Option.isSome_some, Option.isSome_none, Nat.zero_add, Nat.add_zero, Nat.reduceAdd, List.getElem?_cons_zero, List.getElem?_cons_succ, List.length_cons, List.length_nil, List.all_cons, List.all_nil, Bool.and_self, Bool.and_true, Bool.true_and, Option.bind_some, Nat.reduceLeDiff, Nat.reduceEqDiff, Nat.le_refl, and_self, if_true, if_false, List.drop_zero, List.drop_succ_cons, List.take_zero, List.take_succ_cons, List.take_nil, List.drop_nil, true_and, and_true, decide_true, decide_false, Nat.reduceMul, Nat.zero_mul, Nat.one_mul, Nat.mul_one, decide_eq_true k5]
              exact rlot_ok ho hnok ha hto rfl (by omega) h1 fin
            simp only [RS, List.cons_append, List.nil_append, Option.isNone_some, Option.isNone_none, Option.isSome_some, Option.isSome_none, Nat.zero_add, Nat.add_zero, Nat.reduceAdd, List.getElem?_cons_zero, List.getElem?_cons_succ, List.length_cons, List.length_nil, List.all_cons, List.all_nil, Bool.and_self, Bool.and_true, Bool.true_and, Option.bind_some, Nat.reduceLeDiff, Nat.reduceEqDiff, Nat.le_refl, and_self, if_true, if_false, List.drop_zero, List.drop_succ_cons, List.take_zero, List.take_succ_cons, List.take_nil, List.drop_nil, true_and, and_true, decide_true, decide_false, Nat.reduceMul, Nat.zero_mul, Nat.one_mul, Nat.mul_one, decide_eq_false k5, gn]
            by_cases k20 : (n.kind : Int) ≤ 20
            · simp only [RS, List.cons_append, List.nil_append, Option.isNone_some, Option.isNone_none, Option.isSome_some, Option.isSome_none, Nat.zero_add, Nat.add_zero, Nat.reduceAdd, List.getElem?_cons_zero, List.getElem?_cons_succ, List.length_cons, List.length_nil, List.all_cons, List.all_nil, Bool.and_self, Bool.and_true, Bool.true_and, Option.bind_some, Nat.reduceLeDiff, Nat.reduceEqDiff, Nat.le_refl, and_self, if_true, if_false, List.drop_zero, List.drop_succ_cons, List.take_zero, List.take_succ_cons, List.take_nil, List.drop_nil, true_and, and_true, decide_true, decide_false, Nat.reduceMul, Nat.zero_mul, Nat.one_mul, Nat.mul_one, decide_eq_true k20]
              exact rmutex_ok ho hnok ha rfl (by omega) h1 fin
            simp only [RS, List.cons_append, List.nil_append, Option.isNone_some, Option.isNone_none, Option.isSome_some, Option.isSome_none, Nat.zero_add, Nat.add_zero, Nat.reduceAdd, List.getElem?_cons_zero, List.getElem?_cons_succ, List.length_cons, List.length_nil, List.all_cons, List.all_nil, Bool.and_self, Bool.and_true, Bool.true_and, Option.bind_some, Nat.reduceLeDiff, Nat.reduceEqDiff, Nat.le_refl, and_self, if_true, if_false, List.drop_zero, List.drop_succ_cons, List.take_zero, List.take_succ_cons, List.take_nil, List.drop_nil, true_and, and_true, decide_true, decide_false, Nat.reduceMul, Nat.zero_mul, Nat.one_mul, Nat.mul_one, decide_eq_false k20, gn]
            by_cases k28 : (n.kind : Int) ≤ 28
            · simp only [RS, List.cons_append, List.nil_append, Option.isNone_some, Option.isNone_none, Option.isSome_some, Option.isSome_none, Nat.zero_add, Nat.add_zero, Nat.reduceAdd, List.getElem?_cons_zero, List.getElem?_cons_succ, List.length_cons, List.length_nil, List.all_cons, List.all_nil, Bool.and_self, Bool.and_true, Bool.true_and, Option.bind_some, Nat.reduceLeDiff, Nat.reduceEqDiff, Nat.le_refl, and_self, if_true, if_false, List.drop_zero, List.drop_succ_cons, List.take_zero, List.take_succ_cons, List.take_nil, List.drop_nil, true_and, and_true, decide_true, decide_false, Nat.reduceMul, Nat.zero_mul, Nat.one_mul, Nat.mul_one, decide_eq_true k28]
              exact rlock_ok ho hnok ha rfl (by omega) h1 fin
            simp only [RS, List.cons_append, List.nil_append, Option.isNone_some, Option.isNone_none, Option.isSome_some, Option.isSome_none, Nat.zero_add, Nat.add_zero, Nat.reduceAdd, List.getElem?_cons_zero, List.getElem?_cons_succ, List.length_cons, List.length_nil, List.all_cons, List.all_nil, Bool.and_self, Bool.and_true, Bool.true_and, Option.bind_some, Nat.reduceLeDiff, Nat.reduceEqDiff, Nat.le_refl, and_self, if_true, if_false, List.drop_zero, List.drop_succ_cons, List.take_zero, List.take_succ_cons, List.take_nil, List.drop_nil, true_and, and_true, decide_true, decide_false, Nat.reduceMul, Nat.zero_mul, Nat.one_mul, Nat.mul_one, decide_eq_false k28, gn]
            by_cases k32 : (n.kind : Int) ≤ 32
            · simp only [RS, List.cons_append, List.nil_append, Option.isNone_some, Option.isNone_none, Option.isSome_some, Option.isSome_none, Nat.zero_add, Nat.add_zero, Nat.reduceAdd, List.getElem?_cons_zero, List.getElem?_cons_succ, List.length_cons, List.length_nil, List.all_cons, List.all_nil, Bool.and_self, Bool.and_true, Bool.true_and, Option.bind_some, Nat.reduceLeDiff, Nat.reduceEqDiff, Nat.le_refl, and_self, if_true, if_false, List.drop_zero, List.drop_succ_cons, List.take_zero, List.take_succ_cons, List.take_nil, List.drop_nil, true_and, and_true, decide_true, decide_false, Nat.reduceMul, Nat.zero_mul, Nat.one_mul, Nat.mul_one, decide_eq_true k32]
              exact rwaiting_ok ho hnok ha rfl (by omega) h1 fin
            simp only [RS, List.cons_append, List.nil_append, Option.isNone_some, Option.isNone_none, Option.isSome_some, Option.isSome_none, Nat.zero_add, Nat.add_zero, Nat.reduceAdd, List.getElem?_cons_zero, List.getElem?_cons_succ, List.length_cons, List.length_nil, List.all_cons, List.all_nil, Bool.and_self, Bool.and_true, Bool.true_and, Option.bind_some, Nat.reduceLeDiff, Nat.reduceEqDiff, Nat.le_refl, and_self, if_true, if_false, List.drop_zero, List.drop_succ_cons, List.take_zero, List.take_succ_cons, List.take_nil, List.drop_nil, true_and, and_true, decide_true, decide_false, Nat.reduceMul, Nat.zero_mul, Nat.one_mul, Nat.mul_one, decide_eq_false k32, gn]
            exact rbody_ok ho hnok ha rfl (by omega) h1 fin
        · intro R hR
          refine jn_of ?_
          simp only [RS, List.cons_append, List.nil_append, Option.isNone_some, Option.isNone_none, Option.isSome_some, Option.isSome_none, Nat.zero_add, Nat.add_zero, Nat.reduceAdd, List.getElem?_cons_zero, List.getElem?_cons_succ, List.length_cons, List.length_nil, List.all_cons, List.all_nil, Bool.and_self, Bool.and_true, Bool.true_and, Option.bind_some, Nat.reduceLeDiff, Nat.reduceEqDiff, Nat.le_refl, and_self, if_true, if_false, List.drop_zero, List.drop_succ_cons, List.take_zero, List.take_succ_cons, List.take_nil, List.drop_nil, true_and, and_true, decide_true, decide_false, Nat.reduceMul, Nat.zero_mul, Nat.one_mul, Nat.mul_one, gr]
          cases hsn : s.seen with
          | false =>
            simp only [gdD, RS, List.cons_append, List.nil_append, Option.isNone_some, Option.isNone_none, Option.isSome_some, Option.isSome_none, Nat.zero_add, Nat.add_zero, Nat.reduceAdd, List.getElem?_cons_zero, List.getElem?_cons_succ, List.length_cons, List.length_nil, List.all_cons, List.all_nil, Bool.and_self, Bool.and_true, Bool.true_and, Option.bind_some, Nat.reduceLeDiff, Nat.reduceEqDiff, Nat.le_refl, and_self, if_true, if_false, List.drop_zero, List.drop_succ_cons, List.take_zero, List.take_succ_cons, List.take_nil, List.drop_nil, true_and, and_true, decide_true, decide_false, Nat.reduceMul, Nat.zero_mul, Nat.one_mul, Nat.mul_one]
            exact hR _ _ ⟨rfl, rfl, by rw [hsn]; rfl⟩
          | true =>
            simp only [gdD, RS, List.cons_append, List.nil_append, Option.isNone_some, Option.isNone_none, Option.isSome_some, Option.isSome_none, Nat.zero_add, Nat.add_zero, Nat.reduceAdd, List.getElem?_cons_zero, List.getElem?_cons_succ, List.length_cons, List.length_nil, List.all_cons, List.all_nil, Bool.and_self, Bool.and_true, Bool.true_and, Option.bind_some, Nat.reduceLeDiff, Nat.reduceEqDiff, Nat.le_refl, and_self, if_true, if_false, List.drop_zero, List.drop_succ_cons, List.take_zero, List.take_succ_cons, List.take_nil, List.drop_nil, true_and, and_true, decide_true, decide_false, Nat.reduceMul, Nat.zero_mul, Nat.one_mul, Nat.mul_one, gn, gr]
            cases hst : decide (n.step < s.step) with
            | true =>
              rw [rest hoo, hsn, hst] at hK
              simp only [RS, List.cons_append, List.nil_append, Option.isNone_some, Option.isNone_none, Option.isSome_some, Option.isSome_none, Nat.zero_add, Nat.add_zero, Nat.reduceAdd, List.getElem?_cons_zero, List.getElem?_cons_succ, List.length_cons, List.length_nil, List.all_cons, List.all_nil, Bool.and_self, Bool.and_true, Bool.true_and, Option.bind_some, Nat.reduceLeDiff, Nat.reduceEqDiff, Nat.le_refl, and_self, if_true, if_false, List.drop_zero, List.drop_succ_cons, List.take_zero, List.take_succ_cons, List.take_nil, List.drop_nil, true_and, and_true, decide_true, decide_false, Nat.reduceMul, Nat.zero_mul, Nat.one_mul, Nat.mul_one]
              exact hK _ L (rnote_drop (n := n) h1)
            | false =>
              simp only [RS, List.cons_append, List.nil_append, Option.isNone_some, Option.isNone_none, Option.isSome_some, Option.isSome_none, Nat.zero_add, Nat.add_zero, Nat.reduceAdd, List.getElem?_cons_zero, List.getElem?_cons_succ, List.length_cons, List.length_nil, List.all_cons, List.all_nil, Bool.and_self, Bool.and_true, Bool.true_and, Option.bind_some, Nat.reduceLeDiff, Nat.reduceEqDiff, Nat.le_refl, and_self, if_true, if_false, List.drop_zero, List.drop_succ_cons, List.take_zero, List.take_succ_cons, List.take_nil, List.drop_nil, true_and, and_true, decide_true, decide_false, Nat.reduceMul, Nat.zero_mul, Nat.one_mul, Nat.mul_one]
              exact hR _ _ ⟨rfl, rfl, by rw [hsn, hst]; rfl⟩
end
end Go.Proofs.YtiolnpeniklhiaaGreatDoor
