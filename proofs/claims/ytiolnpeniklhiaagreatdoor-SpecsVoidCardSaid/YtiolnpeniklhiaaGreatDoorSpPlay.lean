/- Of whatever notes each one's fault, and all that the state tells then, of its addresses, are the chapter's: the law's run.
   Conditions: what stands in memory, as each states it. -/
import Derived.Test.YtiolnpeniklhiaaGreatDoorRef9
import Derived.Test.YtiolnpeniklhiaaGreatDoorSpLives
import Derived.Test.YtiolnpeniklhiaaGreatDoorSpNotes
namespace Go.Proofs.YtiolnpeniklhiaaGreatDoor
open Go Go.Ab
set_option linter.all false
set_option maxRecDepth 100000
section
variable {H : AH} {F : SL} {K : KV} {s : SS} {p r : Nat} {a : Int}
theorem told_set {m : Nat} {k : CK} {xs : List Int} {i : Nat} {x : Int} (hk : k.rw = true) (hi : i < xs.length) (H2 : AH) : stO 1 m i (.int .i64 x) H2 (some (.cells (ints xs) Ty.int k)) = some (.tuple ⟨[]⟩, H2.put m (.cells (ints (xs.set i x)) Ty.int k)) := by
  rw [stO_1 _ _ _ _ _ _ _ hk rfl rfl (by simp; omega)]
  have := ints_set xs [] i x hi
  simp only [List.append_nil] at this
  rw [this]
/-- A told list, overwritten in a loop. -/
theorem told_step {v : Value} {xs : List Int} {i : Nat} (h : sat H (toldA v xs * F)) (hi : i < xs.length) : ∃ m, ixS 1 v (.int .i64 (i : Int)) = some (.pointer (some ⟨m, i, none⟩)) ∧ ∃ H', stO 1 m i (.int .i64 (-9)) H (H.get m) = some (.tuple ⟨[]⟩, H') ∧ sat H' (toldA v (xs.set i (-9)) * F) := by
  rcases sat_told.1 h with ⟨rfl, rfl, -⟩ | ⟨m, k, rfl, hk, h4⟩
  · simp at hi
  · refine ⟨m, by rw [ixS_of 1 m 0 _ _ (some 0) .i64 i hi, Nat.zero_add, Nat.mul_one], _, by rw [(sat_get h4).1]; exact told_set hk hi H, ?_⟩
    exact sat_told.2 (.inr ⟨m, k, by simp, hk, sat_put _ h4⟩)
theorem told_len {v : Value} {xs : List Int} (h : sat H (toldA v xs * F)) : ∀ t, lenT (.slice t) v H = some (.int .i64 (xs.length : Int)) := (told_row h).len
theorem SpecsPlay_ds {g : Nat} {v : Value} {l : List NV} (hr : ∀ H', sat H' F → RowN H' g v l) (hv : ∀ n ∈ l, n.fit) (hs : sat H (NM * F)) (hK : ∀ H', K (.bool true) H') : DS Tryz.prog Fi.laybylaw37_SpecsPlay [v] H K := by
  refine use_laybylaw37_SpecsPlay 400 ?_
  unfold sh_laybylaw37_SpecsPlay
  have row := hr _ (sat_sub hs)
  simp only [RS, List.cons_append, List.nil_append, Option.isNone_some, Option.isNone_none, Option.isSome_some, Option.isSome_none, Nat.zero_add, Nat.add_zero, Nat.reduceAdd, List.getElem?_cons_zero, List.getElem?_cons_succ, List.length_cons, List.length_nil, List.all_cons, List.all_nil, Bool.and_self, Bool.and_true, Bool.true_and, Option.bind_some, Nat.reduceLeDiff, Nat.reduceEqDiff, Nat.le_refl, and_self, if_true, if_false, List.drop_zero, List.drop_succ_cons, List.take_zero, List.take_succ_cons, List.take_nil, List.drop_nil, true_and, and_true, decide_true, decide_false, Nat.reduceMul, Nat.zero_mul, Nat.one_mul, Nat.mul_one, row.len]
  by_cases hl : l.length > 300
  · have hd : decide ((l.length : Int) > 300) = true := decide_eq_true (by omega)
    simp only [RS, List.cons_append, List.nil_append, Option.isNone_some, Option.isNone_none, Option.isSome_some, Option.isSome_none, Nat.zero_add, Nat.add_zero, Nat.reduceAdd, List.getElem?_cons_zero, List.getElem?_cons_succ, List.length_cons, List.length_nil, List.all_cons, List.all_nil, Bool.and_self, Bool.and_true, Bool.true_and, Option.bind_some, Nat.reduceLeDiff, Nat.reduceEqDiff, Nat.le_refl, and_self, if_true, if_false, List.drop_zero, List.drop_succ_cons, List.take_zero, List.take_succ_cons, List.take_nil, List.drop_nil, true_and, and_true, decide_true, decide_false, Nat.reduceMul, Nat.zero_mul, Nat.one_mul, Nat.mul_one, hd]
    refine lives37_ok hs fun H' _ => ?_
    exact hK _
  have hd : decide ((l.length : Int) > 300) = false := decide_eq_false (by omega)
  simp only [RS, List.cons_append, List.nil_append, Option.isNone_some, Option.isNone_none, Option.isSome_some, Option.isSome_none, Nat.zero_add, Nat.add_zero, Nat.reduceAdd, List.getElem?_cons_zero, List.getElem?_cons_succ, List.length_cons, List.length_nil, List.all_cons, List.all_nil, Bool.and_self, Bool.and_true, Bool.true_and, Option.bind_some, Nat.reduceLeDiff, Nat.reduceEqDiff, Nat.le_refl, and_self, if_true, if_false, List.drop_zero, List.drop_succ_cons, List.take_zero, List.take_succ_cons, List.take_nil, List.drop_nil, true_and, and_true, decide_true, decide_false, Nat.reduceMul, Nat.zero_mul, Nat.one_mul, Nat.mul_one, hd]
  refine New_ok hs fun p H0 h0 => ?_
  refine New37_ok h0 fun r H1 h1 => ?_
  have gn1 : (H1.new (.cells [.pointer none, .pointer none] Ty.laybylaw37_Pair .fix)).get H1.nx = some (.cells [.pointer none, .pointer none] Ty.laybylaw37_Pair .fix) := by rw [AH.get_new, if_pos rfl]
  have h2 := sat_put (.cells [ptr p, ptr r] Ty.laybylaw37_Pair .fix) (sat_new (.cells [.pointer none, .pointer none] Ty.laybylaw37_Pair .fix) h1)
  simp only [RS, List.cons_append, List.nil_append, Option.isNone_some, Option.isNone_none, Option.isSome_some, Option.isSome_none, Nat.zero_add, Nat.add_zero, Nat.reduceAdd, List.getElem?_cons_zero, List.getElem?_cons_succ, List.length_cons, List.length_nil, List.all_cons, List.all_nil, Bool.and_self, Bool.and_true, Bool.true_and, Option.bind_some, Nat.reduceLeDiff, Nat.reduceEqDiff, Nat.le_refl, and_self, if_true, if_false, List.drop_zero, List.drop_succ_cons, List.take_zero, List.take_succ_cons, List.take_nil, List.drop_nil, true_and, and_true, decide_true, decide_false, Nat.reduceMul, Nat.zero_mul, Nat.one_mul, Nat.mul_one, gn1]
  generalize hP : pts H1.nx (.cells [ptr p, ptr r] Ty.laybylaw37_Pair .fix) = PP at h2
  have gP : ∀ {H' : AH} {G : SL}, sat H' (PP * G) → H'.get H1.nx = some (.cells [ptr p, ptr r] Ty.laybylaw37_Pair .fix) := fun h => by rw [← hP] at h; exact (sat_get h).1
  refine lp_rule (n := 400) (fun n t H2 => ∃ (i : Nat) (s : SS) (L : PL), i ≤ l.length ∧ l.length < n + i ∧ s.ok ∧ t = (v, ptr H1.nx, Value.int .i64 (i : Int), ()) ∧ sat H2 (PP * (StA p s * (RefL r s L * (NM * F))))) ?_ ?_
    ⟨0, _, _, by omega, by omega, SS.zero_ok, rfl, sat_of_eq h2 (by ac_rfl)⟩
  · rintro n t H2 ⟨i, s, L, hi, hn, ho, rfl, h3⟩ R hR
    have row2 := hr _ (sat_sub (sat_sub (sat_sub (sat_sub h3))))
    by_cases hil : i < l.length
    · have hd2 : decide ((i : Int) < (l.length : Int)) = true := decide_eq_true (by omega)
      obtain ⟨x, hx⟩ : ∃ x, l[i]? = some x := ⟨_, List.getElem?_eq_getElem hil⟩
      obtain ⟨hxk, hxa, hxt, -⟩ := hv x (List.mem_of_getElem? hx)
      obtain ⟨e1, e2, e3, e4⟩ := row2.at0 i x hx
      have ho2 := sawS_ok (n := x) ho
      generalize hs2 : (sawS s x).2 = s2 at ho2
      simp only [RS, List.cons_append, List.nil_append, Option.isNone_some, Option.isNone_none, Option.isSome_some, Option.isSome_none, Nat.zero_add, Nat.add_zero, Nat.reduceAdd, List.getElem?_cons_zero, List.getElem?_cons_succ, List.length_cons, List.length_nil, List.all_cons, List.all_nil, Bool.and_self, Bool.and_true, Bool.true_and, Option.bind_some, Nat.reduceLeDiff, Nat.reduceEqDiff, Nat.le_refl, and_self, if_true, if_false, List.drop_zero, List.drop_succ_cons, List.take_zero, List.take_succ_cons, List.take_nil, List.drop_nil, true_and, and_true, decide_true, decide_false, Nat.reduceMul, Nat.zero_mul, Nat.one_mul, Nat.mul_one, row2.len, hd2]
      refine jn_rule (fun t H' => ∃ L', t = (v, ptr H1.nx, Value.int .i64 (i : Int), ()) ∧ sat H' (PP * (StA p s2 * (RefL r s2 L' * (NM * F))))) ?_ ?_
      · rintro t H' ⟨L', rfl, h4⟩
        simp only [RS, List.cons_append, List.nil_append, Option.isNone_some, Option.isNone_none, Option.isSome_some, Option.isSome_none, Nat.zero_add, Nat.add_zero, Nat.reduceAdd, List.getElem?_cons_zero, List.getElem?_cons_succ, List.length_cons, List.length_nil, List.all_cons, List.all_nil, Bool.and_self, Bool.and_true, Bool.true_and, Option.bind_some, Nat.reduceLeDiff, Nat.reduceEqDiff, Nat.le_refl, and_self, if_true, if_false, List.drop_zero, List.drop_succ_cons, List.take_zero, List.take_succ_cons, List.take_nil, List.drop_nil, true_and, and_true, decide_true, decide_false, Nat.reduceMul, Nat.zero_mul, Nat.one_mul, Nat.mul_one, w64s (show i < 1000000000 by omega)]
        exact hR _ _ ⟨i + 1, s2, L', by omega, by omega, ho2, rfl, h4⟩
      intro R1 hR1
      refine jn_rule (fun t H' => ∃ L', t = (v, ptr H1.nx, Value.int .i64 (i : Int), ()) ∧ sat H' (PP * (StA p s2 * (RefL r s2 L' * (NM * F))))) ?_ ?_
      · rintro t H' ⟨L', rfl, h4⟩
        have row4 := hr _ (sat_sub (sat_sub (sat_sub (sat_sub h4))))
        obtain ⟨e1, e2, e3, e4⟩ := row4.at0 i x hx
        simp only [RS, List.cons_append, List.nil_append, Option.isNone_some, Option.isNone_none, Option.isSome_some, Option.isSome_none, Nat.zero_add, Nat.add_zero, Nat.reduceAdd, List.getElem?_cons_zero, List.getElem?_cons_succ, List.length_cons, List.length_nil, List.all_cons, List.all_nil, Bool.and_self, Bool.and_true, Bool.true_and, Option.bind_some, Nat.reduceLeDiff, Nat.reduceEqDiff, Nat.le_refl, and_self, if_true, if_false, List.drop_zero, List.drop_succ_cons, List.take_zero, List.take_succ_cons, List.take_nil, List.drop_nil, true_and, and_true, decide_true, decide_false, Nat.reduceMul, Nat.zero_mul, Nat.one_mul, Nat.mul_one, gP h4, e1, e3]
        refine Queue_ok ho2 (sat_of_eq h4 (sep_left_comm _ _ _)) fun w H4 h5 => ?_
        refine lp_rule (n := 400) (fun n t H' => ∃ (j : Nat) (ys : List Int), ys.length = (s2.q x.addr).length ∧ j ≤ ys.length ∧ ys.length < n + j ∧ t = (v, ptr H1.nx, Value.int .i64 (i : Int), w, Value.int .i64 (j : Int), ()) ∧ sat H' (toldA w ys * (PP * (StA p s2 * (RefL r s2 L' * (NM * F)))))) ?_ ?_
          ⟨0, s2.q x.addr, rfl, by omega, by have := ho2.qlen x.addr; omega, rfl, sat_of_eq h5 (by ac_rfl)⟩
        · rintro n t H' ⟨j, ys, hyl, hj, hjn, rfl, h6⟩ R2 hR2
          have hlen := told_len h6
          have hq64 := ho2.qlen x.addr
          by_cases hjl : j < ys.length
          · have hd3 : decide ((j : Int) < (ys.length : Int)) = true := decide_eq_true (by omega)
            obtain ⟨m, f1, H6, f2, h7⟩ := told_step h6 hjl
            simp only [RS, List.cons_append, List.nil_append, Option.isNone_some, Option.isNone_none, Option.isSome_some, Option.isSome_none, Nat.zero_add, Nat.add_zero, Nat.reduceAdd, List.getElem?_cons_zero, List.getElem?_cons_succ, List.length_cons, List.length_nil, List.all_cons, List.all_nil, Bool.and_self, Bool.and_true, Bool.true_and, Option.bind_some, Nat.reduceLeDiff, Nat.reduceEqDiff, Nat.le_refl, and_self, if_true, if_false, List.drop_zero, List.drop_succ_cons, List.take_zero, List.take_succ_cons, List.take_nil, List.drop_nil, true_and, and_true, decide_true, decide_false, Nat.reduceMul, Nat.zero_mul, Nat.one_mul, Nat.mul_one, hlen, hd3, f1, f2, w64s (show j < 1000000000 by omega)]
            exact hR2 _ _ ⟨j + 1, _, by simpa using hyl, by simp; omega, by simp; omega, rfl, h7⟩
          · have hd3 : decide ((j : Int) < (ys.length : Int)) = false := decide_eq_false (by omega)
            have h7 := sat_sub h6
            have row7 := hr _ (sat_sub (sat_sub (sat_sub (sat_sub h7))))
            obtain ⟨e1, e2, e3, e4⟩ := row7.at0 i x hx
            simp only [RS, List.cons_append, List.nil_append, Option.isNone_some, Option.isNone_none, Option.isSome_some, Option.isSome_none, Nat.zero_add, Nat.add_zero, Nat.reduceAdd, List.getElem?_cons_zero, List.getElem?_cons_succ, List.length_cons, List.length_nil, List.all_cons, List.all_nil, Bool.and_self, Bool.and_true, Bool.true_and, Option.bind_some, Nat.reduceLeDiff, Nat.reduceEqDiff, Nat.le_refl, and_self, if_true, if_false, List.drop_zero, List.drop_succ_cons, List.take_zero, List.take_succ_cons, List.take_nil, List.drop_nil, true_and, and_true, decide_true, decide_false, Nat.reduceMul, Nat.zero_mul, Nat.one_mul, Nat.mul_one, hlen, hd3, gP h7, e1, e3]
            refine Rw_ok ho2 (sat_of_eq h7 (sep_left_comm _ _ _)) fun w2 H7 h8 => ?_
            simp only [rwV, RS, List.cons_append, List.nil_append, Option.isNone_some, Option.isNone_none, Option.isSome_some, Option.isSome_none, Nat.zero_add, Nat.add_zero, Nat.reduceAdd, List.getElem?_cons_zero, List.getElem?_cons_succ, List.length_cons, List.length_nil, List.all_cons, List.all_nil, Bool.and_self, Bool.and_true, Bool.true_and, Option.bind_some, Nat.reduceLeDiff, Nat.reduceEqDiff, Nat.le_refl, and_self, if_true, if_false, List.drop_zero, List.drop_succ_cons, List.take_zero, List.take_succ_cons, List.take_nil, List.drop_nil, true_and, and_true, decide_true, decide_false, Nat.reduceMul, Nat.zero_mul, Nat.one_mul, Nat.mul_one]
            refine lp_rule (n := 400) (fun n t H' => ∃ (j : Nat) (ys : List Int), ys.length ≤ 64 ∧ j ≤ ys.length ∧ ys.length < n + j ∧ t = (v, ptr H1.nx, Value.int .i64 (i : Int), w2, Value.int .i64 (j : Int), ()) ∧ sat H' (toldA w2 ys * (PP * (StA p s2 * (RefL r s2 L' * (NM * F)))))) ?_ ?_
              ⟨0, srt (s2.lk x.addr).rd, srtN_len _ 64, by omega, by have := srtN_len (s2.lk x.addr).rd 64; unfold srt; omega, rfl, sat_of_eq h8 (by ac_rfl)⟩
            · rintro n t H' ⟨j, ys, hyl, hj, hjn, rfl, h9⟩ R3 hR3
              have hlen := told_len h9
              by_cases hjl : j < ys.length
              · have hd3 : decide ((j : Int) < (ys.length : Int)) = true := decide_eq_true (by omega)
                obtain ⟨m, f1, H6, f2, h10⟩ := told_step h9 hjl
                simp only [RS, List.cons_append, List.nil_append, Option.isNone_some, Option.isNone_none, Option.isSome_some, Option.isSome_none, Nat.zero_add, Nat.add_zero, Nat.reduceAdd, List.getElem?_cons_zero, List.getElem?_cons_succ, List.length_cons, List.length_nil, List.all_cons, List.all_nil, Bool.and_self, Bool.and_true, Bool.true_and, Option.bind_some, Nat.reduceLeDiff, Nat.reduceEqDiff, Nat.le_refl, and_self, if_true, if_false, List.drop_zero, List.drop_succ_cons, List.take_zero, List.take_succ_cons, List.take_nil, List.drop_nil, true_and, and_true, decide_true, decide_false, Nat.reduceMul, Nat.zero_mul, Nat.one_mul, Nat.mul_one, hlen, hd3, f1, f2, w64s (show j < 1000000000 by omega)]
                exact hR3 _ _ ⟨j + 1, _, by simpa using hyl, by simp; omega, by simp; omega, rfl, h10⟩
              · have hd3 : decide ((j : Int) < (ys.length : Int)) = false := decide_eq_false (by omega)
                have h10 := sat_sub h9
                have row10 := hr _ (sat_sub (sat_sub (sat_sub (sat_sub h10))))
                obtain ⟨e1, e2, e3, e4⟩ := row10.at0 i x hx
                simp only [RS, List.cons_append, List.nil_append, Option.isNone_some, Option.isNone_none, Option.isSome_some, Option.isSome_none, Nat.zero_add, Nat.add_zero, Nat.reduceAdd, List.getElem?_cons_zero, List.getElem?_cons_succ, List.length_cons, List.length_nil, List.all_cons, List.all_nil, Bool.and_self, Bool.and_true, Bool.true_and, Option.bind_some, Nat.reduceLeDiff, Nat.reduceEqDiff, Nat.le_refl, and_self, if_true, if_false, List.drop_zero, List.drop_succ_cons, List.take_zero, List.take_succ_cons, List.take_nil, List.drop_nil, true_and, and_true, decide_true, decide_false, Nat.reduceMul, Nat.zero_mul, Nat.one_mul, Nat.mul_one, hlen, hd3, gP h10, e1, e3]
                refine Same_ok ho2 hxa (sat_of_eq h10 (by ac_rfl : _ = StA p s2 * (RefL r s2 L' * (PP * (NM * F))))) fun H8 L8 h11 => ?_
                simp only [RS, List.cons_append, List.nil_append, Option.isNone_some, Option.isNone_none, Option.isSome_some, Option.isSome_none, Nat.zero_add, Nat.add_zero, Nat.reduceAdd, List.getElem?_cons_zero, List.getElem?_cons_succ, List.length_cons, List.length_nil, List.all_cons, List.all_nil, Bool.and_self, Bool.and_true, Bool.true_and, Option.bind_some, Nat.reduceLeDiff, Nat.reduceEqDiff, Nat.le_refl, and_self, if_true, if_false, List.drop_zero, List.drop_succ_cons, List.take_zero, List.take_succ_cons, List.take_nil, List.drop_nil, true_and, and_true, decide_true, decide_false, Nat.reduceMul, Nat.zero_mul, Nat.one_mul, Nat.mul_one, Bool.not_true]
                exact hR1 _ _ ⟨L8, rfl, sat_of_eq h11 (by ac_rfl)⟩
            · rintro t H' ⟨j, ys, h1, h2, h3, -⟩; omega
        · rintro t H' ⟨j, ys, h1, h2, h3, -⟩; omega
      intro R2 hR2
      refine jn_rule (fun t H' => ∃ L', t = (v, ptr H1.nx, Value.int .i64 (i : Int), .bool false, ()) ∧ sat H' (PP * (StA p s2 * (RefL r s2 L' * (NM * F))))) ?_ ?_
      · rintro t H' ⟨L', rfl, h4⟩
        simp only [RS, List.cons_append, List.nil_append, Option.isNone_some, Option.isNone_none, Option.isSome_some, Option.isSome_none, Nat.zero_add, Nat.add_zero, Nat.reduceAdd, List.getElem?_cons_zero, List.getElem?_cons_succ, List.length_cons, List.length_nil, List.all_cons, List.all_nil, Bool.and_self, Bool.and_true, Bool.true_and, Option.bind_some, Nat.reduceLeDiff, Nat.reduceEqDiff, Nat.le_refl, and_self, if_true, if_false, List.drop_zero, List.drop_succ_cons, List.take_zero, List.take_succ_cons, List.take_nil, List.drop_nil, true_and, and_true, decide_true, decide_false, Nat.reduceMul, Nat.zero_mul, Nat.one_mul, Nat.mul_one]
        exact hR2 _ _ ⟨L', rfl, h4⟩
      intro R3 hR3
      simp only [RS, List.cons_append, List.nil_append, Option.isNone_some, Option.isNone_none, Option.isSome_some, Option.isSome_none, Nat.zero_add, Nat.add_zero, Nat.reduceAdd, List.getElem?_cons_zero, List.getElem?_cons_succ, List.length_cons, List.length_nil, List.all_cons, List.all_nil, Bool.and_self, Bool.and_true, Bool.true_and, Option.bind_some, Nat.reduceLeDiff, Nat.reduceEqDiff, Nat.le_refl, and_self, if_true, if_false, List.drop_zero, List.drop_succ_cons, List.take_zero, List.take_succ_cons, List.take_nil, List.drop_nil, true_and, and_true, decide_true, decide_false, Nat.reduceMul, Nat.zero_mul, Nat.one_mul, Nat.mul_one, gP h3, e1, e2]
      refine PSaw_ok ho hxk hxa hxt (sat_of_eq h3 (by ac_rfl : _ = StA p s * (RefL r s L * (NM * (PP * F))))) fun H3 L3 h4 => ?_
      rw [hs2] at h4
      have h5 : sat H3 (PP * (StA p s2 * (RefL r s2 L3 * (NM * F)))) := sat_of_eq h4 (by ac_rfl)
      have row5 := hr _ (sat_sub (sat_sub (sat_sub (sat_sub h5))))
      obtain ⟨e1, e2, e3, e4⟩ := row5.at0 i x hx
      simp only [gdD, RS, List.cons_append, List.nil_append, Option.isNone_some, Option.isNone_none, Option.isSome_some, Option.isSome_none, Nat.zero_add, Nat.add_zero, Nat.reduceAdd, List.getElem?_cons_zero, List.getElem?_cons_succ, List.length_cons, List.length_nil, List.all_cons, List.all_nil, Bool.and_self, Bool.and_true, Bool.true_and, Option.bind_some, Nat.reduceLeDiff, Nat.reduceEqDiff, Nat.le_refl, and_self, if_true, if_false, List.drop_zero, List.drop_succ_cons, List.take_zero, List.take_succ_cons, List.take_nil, List.drop_nil, true_and, and_true, decide_true, decide_false, Nat.reduceMul, Nat.zero_mul, Nat.one_mul, Nat.mul_one, Bool.not_true, gP h5, e1, e3]
      refine Same_ok ho2 hxa (sat_of_eq h5 (by ac_rfl : _ = StA p s2 * (RefL r s2 L3 * (PP * (NM * F))))) fun H4 L4 h6 => ?_
      have h7 : sat H4 (PP * (StA p s2 * (RefL r s2 L4 * (NM * F)))) := sat_of_eq h6 (by ac_rfl)
      have row7 := hr _ (sat_sub (sat_sub (sat_sub (sat_sub h7))))
      obtain ⟨e1, e2, e3, e4⟩ := row7.at0 i x hx
      simp only [gdD, RS, List.cons_append, List.nil_append, Option.isNone_some, Option.isNone_none, Option.isSome_some, Option.isSome_none, Nat.zero_add, Nat.add_zero, Nat.reduceAdd, List.getElem?_cons_zero, List.getElem?_cons_succ, List.length_cons, List.length_nil, List.all_cons, List.all_nil, Bool.and_self, Bool.and_true, Bool.true_and, Option.bind_some, Nat.reduceLeDiff, Nat.reduceEqDiff, Nat.le_refl, and_self, if_true, if_false, List.drop_zero, List.drop_succ_cons, List.take_zero, List.take_succ_cons, List.take_nil, List.drop_nil, true_and, and_true, decide_true, decide_false, Nat.reduceMul, Nat.zero_mul, Nat.one_mul, Nat.mul_one, Bool.not_true, gP h7, e1, e4]
      refine Same_ok ho2 hxt (sat_of_eq h7 (by ac_rfl : _ = StA p s2 * (RefL r s2 L4 * (PP * (NM * F))))) fun H5 L5 h8 => ?_
      simp only [RS, List.cons_append, List.nil_append, Option.isNone_some, Option.isNone_none, Option.isSome_some, Option.isSome_none, Nat.zero_add, Nat.add_zero, Nat.reduceAdd, List.getElem?_cons_zero, List.getElem?_cons_succ, List.length_cons, List.length_nil, List.all_cons, List.all_nil, Bool.and_self, Bool.and_true, Bool.true_and, Option.bind_some, Nat.reduceLeDiff, Nat.reduceEqDiff, Nat.le_refl, and_self, if_true, if_false, List.drop_zero, List.drop_succ_cons, List.take_zero, List.take_succ_cons, List.take_nil, List.drop_nil, true_and, and_true, decide_true, decide_false, Nat.reduceMul, Nat.zero_mul, Nat.one_mul, Nat.mul_one, Bool.not_true]
      exact hR3 _ _ ⟨L5, rfl, sat_of_eq h8 (by ac_rfl)⟩
    · have hd2 : decide ((i : Int) < (l.length : Int)) = false := decide_eq_false (by omega)
      simp only [RS, List.cons_append, List.nil_append, Option.isNone_some, Option.isNone_none, Option.isSome_some, Option.isSome_none, Nat.zero_add, Nat.add_zero, Nat.reduceAdd, List.getElem?_cons_zero, List.getElem?_cons_succ, List.length_cons, List.length_nil, List.all_cons, List.all_nil, Bool.and_self, Bool.and_true, Bool.true_and, Option.bind_some, Nat.reduceLeDiff, Nat.reduceEqDiff, Nat.le_refl, and_self, if_true, if_false, List.drop_zero, List.drop_succ_cons, List.take_zero, List.take_succ_cons, List.take_nil, List.drop_nil, true_and, and_true, decide_true, decide_false, Nat.reduceMul, Nat.zero_mul, Nat.one_mul, Nat.mul_one, row2.len, hd2]
      refine lives37_ok (sat_sub (sat_sub (sat_sub h3))) fun H4 _ => ?_
      exact hK _
  · rintro t H2 ⟨i, s, L, h1, h2, -⟩; omega
end
end Go.Proofs.YtiolnpeniklhiaaGreatDoor
