/- The document's answer: what it tells of an address; both compared.
   Conditions: what stands in memory, as each states it. -/
import Derived.Test.YtiolnpeniklhiaaGreatDoorRef7
namespace Go.Proofs.YtiolnpeniklhiaaGreatDoor
open Go Go.Ab
set_option linter.all false
set_option maxRecDepth 100000
section
variable {H : AH} {F : SL} {K : KV} {s : SS} {r p : Nat} {L : PL} {n : NV} {a : Int}
theorem RMutex_ok (ha : 0 ≤ a ∧ a < 4294967296) (hs : sat H (RefL r s L * F)) (hK : ∀ H' L', sat H' (RefL r s L' * F) → K (.int .i64 (s.ow a - 1)) H') : DS Tryz.prog Fi.laybyref37_State_Mutex [ptr r, .int .u32 a] H K := by
  refine use_laybyref37_State_Mutex 0 ?_
  unfold sh_laybyref37_State_Mutex
  simp only [RS, List.cons_append, List.nil_append, Option.isNone_some, Option.isNone_none, Option.isSome_some, Option.isSome_none, Nat.zero_add, Nat.add_zero, Nat.reduceAdd, List.getElem?_cons_zero, List.getElem?_cons_succ, List.length_cons, List.length_nil, List.all_cons, List.all_nil, Bool.and_self, Bool.and_true, Bool.true_and, Option.bind_some, Nat.reduceLeDiff, Nat.reduceEqDiff, Nat.le_refl, and_self, if_true, if_false, List.drop_zero, List.drop_succ_cons, List.take_zero, List.take_succ_cons, List.take_nil, List.drop_nil, true_and, and_true, decide_true, decide_false, Nat.reduceMul, Nat.zero_mul, Nat.one_mul, Nat.mul_one]
  refine at_ok ha hs fun m H1 L' hm _ h2 => ?_
  obtain ⟨vq, vr, h4⟩ := sat_plA.1 (ref_open hm h2)
  have gp := (sat_get h4).1
  simp only [prOf] at gp
  simp only [RS, List.cons_append, List.nil_append, Option.isNone_some, Option.isNone_none, Option.isSome_some, Option.isSome_none, Nat.zero_add, Nat.add_zero, Nat.reduceAdd, List.getElem?_cons_zero, List.getElem?_cons_succ, List.length_cons, List.length_nil, List.all_cons, List.all_nil, Bool.and_self, Bool.and_true, Bool.true_and, Option.bind_some, Nat.reduceLeDiff, Nat.reduceEqDiff, Nat.le_refl, and_self, if_true, if_false, List.drop_zero, List.drop_succ_cons, List.take_zero, List.take_succ_cons, List.take_nil, List.drop_nil, true_and, and_true, decide_true, decide_false, Nat.reduceMul, Nat.zero_mul, Nat.one_mul, Nat.mul_one, gp]
  exact hK _ L' h2
theorem ROnce_ok (ha : 0 ≤ a ∧ a < 4294967296) (hs : sat H (RefL r s L * F)) (hK : ∀ H' L', sat H' (RefL r s L' * F) → K (onV (s.on a)) H') : DS Tryz.prog Fi.laybyref37_State_Once [ptr r, .int .u32 a] H K := by
  refine use_laybyref37_State_Once 0 ?_
  unfold sh_laybyref37_State_Once
  simp only [RS, List.cons_append, List.nil_append, Option.isNone_some, Option.isNone_none, Option.isSome_some, Option.isSome_none, Nat.zero_add, Nat.add_zero, Nat.reduceAdd, List.getElem?_cons_zero, List.getElem?_cons_succ, List.length_cons, List.length_nil, List.all_cons, List.all_nil, Bool.and_self, Bool.and_true, Bool.true_and, Option.bind_some, Nat.reduceLeDiff, Nat.reduceEqDiff, Nat.le_refl, and_self, if_true, if_false, List.drop_zero, List.drop_succ_cons, List.take_zero, List.take_succ_cons, List.take_nil, List.drop_nil, true_and, and_true, decide_true, decide_false, Nat.reduceMul, Nat.zero_mul, Nat.one_mul, Nat.mul_one]
  have h1 : sat (H.new (.cells [.int .i64 0, .bool false, .bool false] Ty.laybyref37_Once .fix)) (RefL r s L * (pts H.nx (.cells [.int .i64 0, .bool false, .bool false] Ty.laybyref37_Once .fix) * F)) := sat_of_eq (sat_new _ hs) (by ac_rfl)
  refine at_ok ha h1 fun m H1 L' hm _ h2 => ?_
  obtain ⟨vq, vr, h4⟩ := sat_plA.1 (ref_open hm h2)
  have gp := (sat_get h4).1
  have g0 := (sat_get (sat_sub h2)).1
  have h5 := sat_put (.cells [.int .i64 ((s.on a).by_ - 1), .bool (s.on a).dn, .bool (s.on a).sk] Ty.laybyref37_Once .fix) (sat_of_eq h2 (sep_left_comm _ _ _))
  simp only [prOf] at gp
  simp only [RS, List.cons_append, List.nil_append, Option.isNone_some, Option.isNone_none, Option.isSome_some, Option.isSome_none, Nat.zero_add, Nat.add_zero, Nat.reduceAdd, List.getElem?_cons_zero, List.getElem?_cons_succ, List.length_cons, List.length_nil, List.all_cons, List.all_nil, Bool.and_self, Bool.and_true, Bool.true_and, Option.bind_some, Nat.reduceLeDiff, Nat.reduceEqDiff, Nat.le_refl, and_self, if_true, if_false, List.drop_zero, List.drop_succ_cons, List.take_zero, List.take_succ_cons, List.take_nil, List.drop_nil, true_and, and_true, decide_true, decide_false, Nat.reduceMul, Nat.zero_mul, Nat.one_mul, Nat.mul_one, gp, g0, get_put_eq]
  exact hK _ L' (sat_sub h5)
theorem RQueue_ok (ho : s.ok) (ha : 0 ≤ a ∧ a < 4294967296) (hs : sat H (RefL r s L * F)) (hK : ∀ v H' L', sat H' (sliceA true v (s.q a) * (RefL r s L' * F)) → K v H') : DS Tryz.prog Fi.laybyref37_State_Queue [ptr r, .int .u32 a] H K := by
  refine use_laybyref37_State_Queue 0 ?_
  unfold sh_laybyref37_State_Queue
  simp only [RS, List.cons_append, List.nil_append, Option.isNone_some, Option.isNone_none, Option.isSome_some, Option.isSome_none, Nat.zero_add, Nat.add_zero, Nat.reduceAdd, List.getElem?_cons_zero, List.getElem?_cons_succ, List.length_cons, List.length_nil, List.all_cons, List.all_nil, Bool.and_self, Bool.and_true, Bool.true_and, Option.bind_some, Nat.reduceLeDiff, Nat.reduceEqDiff, Nat.le_refl, and_self, if_true, if_false, List.drop_zero, List.drop_succ_cons, List.take_zero, List.take_succ_cons, List.take_nil, List.drop_nil, true_and, and_true, decide_true, decide_false, Nat.reduceMul, Nat.zero_mul, Nat.one_mul, Nat.mul_one]
  refine at_ok ha hs fun m H1 L' hm _ h2 => ?_
  obtain ⟨vq, vr, h4⟩ := sat_plA.1 (ref_open hm h2)
  have gp := (sat_get h4).1
  have h4q : sat H1 (sliceA true vq (s.q a) * (pts m (.cells ((prOf s a).row a vq vr) Ty.laybyref37_place .fix) * (sliceA true vr (prOf s a).rd * (RefX r s L' a * F)))) := sat_of_eq h4 (by show pts _ _ * (sliceA true vq (s.q a) * _) = _; ac_rfl)
  obtain ⟨w, H2, e2, h5⟩ := app_nil h4q (by have := ho.qlen a; omega)
  simp only [prOf] at gp
  simp only [RS, List.cons_append, List.nil_append, Option.isNone_some, Option.isNone_none, Option.isSome_some, Option.isSome_none, Nat.zero_add, Nat.add_zero, Nat.reduceAdd, List.getElem?_cons_zero, List.getElem?_cons_succ, List.length_cons, List.length_nil, List.all_cons, List.all_nil, Bool.and_self, Bool.and_true, Bool.true_and, Option.bind_some, Nat.reduceLeDiff, Nat.reduceEqDiff, Nat.le_refl, and_self, if_true, if_false, List.drop_zero, List.drop_succ_cons, List.take_zero, List.take_succ_cons, List.take_nil, List.drop_nil, true_and, and_true, decide_true, decide_false, Nat.reduceMul, Nat.zero_mul, Nat.one_mul, Nat.mul_one, gp, e2]
  refine hK _ _ L' ?_
  have h6 : sat H2 (pts m (.cells ((prOf s a).row a vq vr) Ty.laybyref37_place .fix) * (sliceA true vq (prOf s a).q * (sliceA true vr (prOf s a).rd * (RefX r s L' a * (sliceA true w (s.q a) * F))))) := sat_of_eq h5 (by show _ * (sliceA true vq (prOf s a).q * _) = _; ac_rfl)
  exact sat_of_eq (ref_close hm (sat_plA.2 ⟨vq, vr, h6⟩) rfl (fun b hb => rfl) rfl rfl rfl) (sep_left_comm _ _ _)
theorem RRw_ok (ho : s.ok) (ha : 0 ≤ a ∧ a < 4294967296) (hs : sat H (RefL r s L * F)) (hK : ∀ v H' L', sat H' (sliceA true v (srt (s.lk a).rd) * (RefL r s L' * F)) → K (rwV v (s.lk a)) H') : DS Tryz.prog Fi.laybyref37_State_Rw [ptr r, .int .u32 a] H K := by
  refine use_laybyref37_State_Rw 70 ?_
  unfold sh_laybyref37_State_Rw
  simp only [RS, List.cons_append, List.nil_append, Option.isNone_some, Option.isNone_none, Option.isSome_some, Option.isSome_none, Nat.zero_add, Nat.add_zero, Nat.reduceAdd, List.getElem?_cons_zero, List.getElem?_cons_succ, List.length_cons, List.length_nil, List.all_cons, List.all_nil, Bool.and_self, Bool.and_true, Bool.true_and, Option.bind_some, Nat.reduceLeDiff, Nat.reduceEqDiff, Nat.le_refl, and_self, if_true, if_false, List.drop_zero, List.drop_succ_cons, List.take_zero, List.take_succ_cons, List.take_nil, List.drop_nil, true_and, and_true, decide_true, decide_false, Nat.reduceMul, Nat.zero_mul, Nat.one_mul, Nat.mul_one]
  have h1 : sat (H.new (.cells [.slice none 0 0, .int .i64 0, .int .i64 0, .bool false] Ty.laybyref37_Rw .fix)) (RefL r s L * (pts H.nx (.cells [.slice none 0 0, .int .i64 0, .int .i64 0, .bool false] Ty.laybyref37_Rw .fix) * F)) := sat_of_eq (sat_new _ hs) (by ac_rfl)
  refine at_ok ha h1 fun m H1 L' hm _ h2 => ?_
  obtain ⟨vq, vr, h4⟩ := sat_plA.1 (ref_open hm h2)
  have gp := (sat_get h4).1
  have hlk := ho.lk a
  have hrl : (s.lk a).rd.length ≤ 64 := few 64 _ hlk.nd hlk.rg
  simp only [prOf] at gp
  generalize hy : s.lk a = y at *
  have n1 := sat_put (.cells [.slice none 0 0, .int .i64 (y.up - 1), .int .i64 (y.cl - 1), .bool y.wr] Ty.laybyref37_Rw .fix) (sat_new (.cells [.slice none 0 0, .int .i64 0, .int .i64 0, .bool false] Ty.laybyref37_Rw .fix) h4)
  have gn0 : (H1.new (.cells [.slice none 0 0, .int .i64 0, .int .i64 0, .bool false] Ty.laybyref37_Rw .fix)).get H1.nx = some (.cells [.slice none 0 0, .int .i64 0, .int .i64 0, .bool false] Ty.laybyref37_Rw .fix) := by rw [AH.get_new, if_pos rfl]
  simp only [RS, List.cons_append, List.nil_append, Option.isNone_some, Option.isNone_none, Option.isSome_some, Option.isSome_none, Nat.zero_add, Nat.add_zero, Nat.reduceAdd, List.getElem?_cons_zero, List.getElem?_cons_succ, List.length_cons, List.length_nil, List.all_cons, List.all_nil, Bool.and_self, Bool.and_true, Bool.true_and, Option.bind_some, Nat.reduceLeDiff, Nat.reduceEqDiff, Nat.le_refl, and_self, if_true, if_false, List.drop_zero, List.drop_succ_cons, List.take_zero, List.take_succ_cons, List.take_nil, List.drop_nil, true_and, and_true, decide_true, decide_false, Nat.reduceMul, Nat.zero_mul, Nat.one_mul, Nat.mul_one, gp, put_res, gn0]
  generalize hB : (H1.new (.cells [.slice none 0 0, .int .i64 0, .int .i64 0, .bool false] Ty.laybyref37_Rw .fix)).put H1.nx (.cells [.slice none 0 0, .int .i64 (y.up - 1), .int .i64 (y.cl - 1), .bool y.wr] Ty.laybyref37_Rw .fix) = B at n1 ⊢
  have erd : (prOf s a).rd = y.rd := by simp only [prOf, hy]
  generalize hG : (RefX r s L' a * (pts H.nx (.cells [.slice none 0 0, .int .i64 0, .int .i64 0, .bool false] Ty.laybyref37_Rw .fix) * F)) = G at n1
  generalize hP : (.cells ((prOf s a).row a vq vr) Ty.laybyref37_place .fix : AObj) = P0 at n1
  have gP : cellO 3 (some P0) = some vr := by rw [← hP]; rfl
  refine lp_rule (n := 70) (fun k t H' => ∃ (i : Nat) (w : Value), i ≤ 64 ∧ 64 < k + i ∧ t = (ptr H.nx, ptr m, ptr H1.nx, Value.int .i64 (i : Int), ()) ∧
    sat H' (pts H1.nx (.cells [w, .int .i64 (y.up - 1), .int .i64 (y.cl - 1), .bool y.wr] Ty.laybyref37_Rw .fix) * (sliceA true w (srtN y.rd i) * (pts m P0 * (sliceA true vq (prOf s a).q * (sliceA true vr y.rd * G)))))) ?_ ?_
    ⟨0, .slice none 0 0, by omega, by omega, rfl, ?_⟩
  · rintro k t H' ⟨i, w, hi, hk, rfl, h5⟩ R hR
    have gv := (sat_get h5).1
    have gm := (sat_get (sat_sub (sat_sub h5))).1
    have hrow : RowI H' vr y.rd := slice_row (sat_sub (sat_sub (sat_sub (sat_sub h5))))
    by_cases hil : i < 64
    · have hd2 : decide ((i : Int) < 64) = true := decide_eq_true (by omega)
      simp only [RS, List.cons_append, List.nil_append, Option.isNone_some, Option.isNone_none, Option.isSome_some, Option.isSome_none, Nat.zero_add, Nat.add_zero, Nat.reduceAdd, List.getElem?_cons_zero, List.getElem?_cons_succ, List.length_cons, List.length_nil, List.all_cons, List.all_nil, Bool.and_self, Bool.and_true, Bool.true_and, Option.bind_some, Nat.reduceLeDiff, Nat.reduceEqDiff, Nat.le_refl, and_self, if_true, if_false, List.drop_zero, List.drop_succ_cons, List.take_zero, List.take_succ_cons, List.take_nil, List.drop_nil, true_and, and_true, decide_true, decide_false, Nat.reduceMul, Nat.zero_mul, Nat.one_mul, Nat.mul_one, hd2]
      refine jn_of ?_
      simp only [RS, List.cons_append, List.nil_append, Option.isNone_some, Option.isNone_none, Option.isSome_some, Option.isSome_none, Nat.zero_add, Nat.add_zero, Nat.reduceAdd, List.getElem?_cons_zero, List.getElem?_cons_succ, List.length_cons, List.length_nil, List.all_cons, List.all_nil, Bool.and_self, Bool.and_true, Bool.true_and, Option.bind_some, Nat.reduceLeDiff, Nat.reduceEqDiff, Nat.le_refl, and_self, if_true, if_false, List.drop_zero, List.drop_succ_cons, List.take_zero, List.take_succ_cons, List.take_nil, List.drop_nil, true_and, and_true, decide_true, decide_false, Nat.reduceMul, Nat.zero_mul, Nat.one_mul, Nat.mul_one, gm, gP]
      refine rhas_ok hrow (by omega) ?_
      by_cases hmm : (i : Int) ∈ y.rd
      · have hb : decide ((i : Int) ∈ y.rd) = true := by simpa using hmm
        have h9 : sat (H'.new (.cells [.int .i64 (i : Int)] Ty.int .fix)) (sliceA true w (srtN y.rd i) * (pts H'.nx (.cells [.int .i64 (i : Int)] Ty.int .fix) * (pts H1.nx (.cells [w, .int .i64 (y.up - 1), .int .i64 (y.cl - 1), .bool y.wr] Ty.laybyref37_Rw .fix) * (pts m P0 * (sliceA true vq (prOf s a).q * (sliceA true vr y.rd * G)))))) := sat_of_eq (sat_new _ h5) (by ac_rfl)
        obtain ⟨w', H2, e2, h10⟩ := app1_ok h9 (by have := srtN_len y.rd i; omega)
        have h11 : sat H2 (pts H1.nx (.cells [w, .int .i64 (y.up - 1), .int .i64 (y.cl - 1), .bool y.wr] Ty.laybyref37_Rw .fix) * (sliceA true w' (srtN y.rd i ++ [(i : Int)]) * (pts m P0 * (sliceA true vq (prOf s a).q * (sliceA true vr y.rd * G))))) := sat_sub (A := pts H'.nx (.cells [.int .i64 (i : Int)] Ty.int .fix)) (sat_of_eq h10 (by ac_rfl))
        have gv2 := (sat_get h11).1
        have hw1 := slice_cell h10
        have es : stO 1 H1.nx 0 w' H2 (some (.cells [w, .int .i64 (y.up - 1), .int .i64 (y.cl - 1), .bool y.wr] Ty.laybyref37_Rw .fix)) = some (.tuple ⟨[]⟩, H2.put H1.nx (.cells [w', .int .i64 (y.up - 1), .int .i64 (y.cl - 1), .bool y.wr] Ty.laybyref37_Rw .fix)) := stO_1 _ _ _ _ _ _ _ rfl hw1.1 hw1.2 (by simp)
        have ec : cellO 0 (some (.cells [w, .int .i64 (y.up - 1), .int .i64 (y.cl - 1), .bool y.wr] Ty.laybyref37_Rw .fix)) = some w := rfl
        simp only [hb, cnd_true, fa_ptr, bn_some, bn2_some, bnA_some, ld1_ptr, gv, ec, bslT_eq, RS, List.cons_append, List.nil_append, Option.isNone_some, Option.isNone_none, Option.isSome_some, Option.isSome_none, Nat.zero_add, Nat.add_zero, Nat.reduceAdd, List.getElem?_cons_zero, List.getElem?_cons_succ, List.length_cons, List.length_nil, List.all_cons, List.all_nil, Bool.and_self, Bool.and_true, Bool.true_and, Option.bind_some, Nat.reduceLeDiff, Nat.reduceEqDiff, Nat.le_refl, and_self, if_true, if_false, List.drop_zero, List.drop_succ_cons, List.take_zero, List.take_succ_cons, List.take_nil, List.drop_nil, true_and, and_true, decide_true, decide_false, Nat.reduceMul, Nat.zero_mul, Nat.one_mul, Nat.mul_one, e2, stT_ptr, gv2, es, w64s (show i < 1000000000 by omega)]
        refine hR _ _ ⟨i + 1, w', by omega, by omega, rfl, ?_⟩
        rw [srtN_succ, if_pos hmm]
        exact sat_put _ h11
      · have hb : decide ((i : Int) ∈ y.rd) = false := by simpa using hmm
        simp only [RS, List.cons_append, List.nil_append, Option.isNone_some, Option.isNone_none, Option.isSome_some, Option.isSome_none, Nat.zero_add, Nat.add_zero, Nat.reduceAdd, List.getElem?_cons_zero, List.getElem?_cons_succ, List.length_cons, List.length_nil, List.all_cons, List.all_nil, Bool.and_self, Bool.and_true, Bool.true_and, Option.bind_some, Nat.reduceLeDiff, Nat.reduceEqDiff, Nat.le_refl, and_self, if_true, if_false, List.drop_zero, List.drop_succ_cons, List.take_zero, List.take_succ_cons, List.take_nil, List.drop_nil, true_and, and_true, decide_true, decide_false, Nat.reduceMul, Nat.zero_mul, Nat.one_mul, Nat.mul_one, hb, w64s (show i < 1000000000 by omega)]
        refine hR _ _ ⟨i + 1, w, by omega, by omega, rfl, ?_⟩
        rw [srtN_succ, if_neg hmm, List.append_nil]
        exact h5
    · have hie : i = 64 := by omega
      subst hie
      have hd2 : decide (((64 : Nat) : Int) < 64) = false := decide_eq_false (by omega)
      have hw1 := slice_cell (sat_sub h5)
      have hpl : ([w, .int .i64 (y.up - 1), .int .i64 (y.cl - 1), .bool y.wr] : List Value).all plain = true := by simp only [List.all_cons, hw1.2, plain_int, plain_bool, List.all_nil, Bool.and_self]
      have es2 : ∀ H2, stO 4 H.nx 0 (.agg ⟨[w, .int .i64 (y.up - 1), .int .i64 (y.cl - 1), .bool y.wr]⟩) H2 (some (.cells [.slice none 0 0, .int .i64 0, .int .i64 0, .bool false] Ty.laybyref37_Rw .fix)) = some (.tuple ⟨[]⟩, H2.put H.nx (.cells [w, .int .i64 (y.up - 1), .int .i64 (y.cl - 1), .bool y.wr] Ty.laybyref37_Rw .fix)) := fun H2 =>
        (stO_N 4 _ _ _ _ _ _ _ rfl rfl hpl (by simp)).trans (by simp [splice])
      have ec4 : ∀ T, cellsO 4 0 (some (.cells [w, .int .i64 (y.up - 1), .int .i64 (y.cl - 1), .bool y.wr] T .fix)) = some (.agg ⟨[w, .int .i64 (y.up - 1), .int .i64 (y.cl - 1), .bool y.wr]⟩) := fun T => rfl
      rw [← hG] at h5
      have h6 := sat_of_eq (B := pts H.nx (.cells [.slice none 0 0, .int .i64 0, .int .i64 0, .bool false] Ty.laybyref37_Rw .fix) * (pts m P0 * (sliceA true vq (prOf s a).q * (sliceA true vr y.rd * (RefX r s L' a * (pts H1.nx (.cells [w, .int .i64 (y.up - 1), .int .i64 (y.cl - 1), .bool y.wr] Ty.laybyref37_Rw .fix) * (sliceA true w (srtN y.rd 64) * F))))))) h5 (by ac_rfl)
      have g6 := (sat_get h6).1
      have h7 := sat_put (.cells [w, .int .i64 (y.up - 1), .int .i64 (y.cl - 1), .bool y.wr] Ty.laybyref37_Rw .fix) h6
      simp only [hd2, cnd_false, bn_some, bn2_some, ldN_ptr, gv, ec4, stT_ptr, g6, es2, get_put_eq, RS, List.cons_append, List.nil_append, Option.isNone_some, Option.isNone_none, Option.isSome_some, Option.isSome_none, Nat.zero_add, Nat.add_zero, Nat.reduceAdd, List.getElem?_cons_zero, List.getElem?_cons_succ, List.length_cons, List.length_nil, List.all_cons, List.all_nil, Bool.and_self, Bool.and_true, Bool.true_and, Option.bind_some, Nat.reduceLeDiff, Nat.reduceEqDiff, Nat.le_refl, and_self, if_true, if_false, List.drop_zero, List.drop_succ_cons, List.take_zero, List.take_succ_cons, List.take_nil, List.drop_nil, true_and, and_true, decide_true, decide_false, Nat.reduceMul, Nat.zero_mul, Nat.one_mul, Nat.mul_one]
      refine hK w _ L' ?_
      have h8 := sat_sub h7
      rw [← hP, ← erd] at h8
      have h9 := ref_close (s' := s) hm (sat_plA.2 ⟨vq, vr, h8⟩) rfl (fun b hb => rfl) rfl rfl rfl
      exact sat_sub (A := pts H1.nx (.cells [w, .int .i64 (y.up - 1), .int .i64 (y.cl - 1), .bool y.wr] Ty.laybyref37_Rw .fix)) (sat_of_eq h9 (by unfold srt; rw [erd]; ac_rfl))
  · rintro t H' ⟨i, w, h1, h2, -⟩; omega
  · rw [erd] at n1
    exact sat_of_eq (slice_nil (x := true) n1) (by show _ = _ * (sliceA true (.slice none 0 0) [] * _); ac_rfl)

/-! ### both compared -/
theorem told_cap {v : Value} {xs : List Int} (h : sat H (toldA v xs * F)) : ∀ t, capT (.slice t) v H = some (.int .i64 (xs.length : Int)) := by
  intro t
  rcases sat_told.1 h with ⟨rfl, rfl, -⟩ | ⟨m, k, rfl, -⟩
  · rfl
  · rfl
theorem sameInts_ok {v w : Value} {xs : List Int} (h1 : RowI H v xs) (h2 : RowI H w xs) (hc : ∀ t, capT (.slice t) v H = some (.int .i64 (xs.length : Int))) (hl : xs.length < 1000000) (hK : K (.bool true) H) : DS Tryz.prog Fi.laybylaw37_sameInts [v, w] H K := by
  refine use_laybylaw37_sameInts (xs.length + 2) ?_
  unfold sh_laybylaw37_sameInts
  have e0 : ((xs.length : Int) != (xs.length : Int)) = false := by simp
  simp only [RS, List.cons_append, List.nil_append, Option.isNone_some, Option.isNone_none, Option.isSome_some, Option.isSome_none, Nat.zero_add, Nat.add_zero, Nat.reduceAdd, List.getElem?_cons_zero, List.getElem?_cons_succ, List.length_cons, List.length_nil, List.all_cons, List.all_nil, Bool.and_self, Bool.and_true, Bool.true_and, Option.bind_some, Nat.reduceLeDiff, Nat.reduceEqDiff, Nat.le_refl, and_self, if_true, if_false, List.drop_zero, List.drop_succ_cons, List.take_zero, List.take_succ_cons, List.take_nil, List.drop_nil, true_and, and_true, decide_true, decide_false, Nat.reduceMul, Nat.zero_mul, Nat.one_mul, Nat.mul_one, h1.len, h2.len, hc, e0]
  refine lp_rule (fun n s H1 => ∃ i : Nat, i ≤ xs.length ∧ xs.length < n + i ∧ s = (v, w, .int .i64 (i : Int), ()) ∧ H1 = H) ?_ ?_ ⟨0, by omega, by omega, rfl, rfl⟩
  · rintro n s H1 ⟨i, hi, hn, rfl, rfl⟩ R hR
    by_cases hil : i < xs.length
    · have hd : decide ((i : Int) < (xs.length : Int)) = true := by simpa using hil
      obtain ⟨x, hx⟩ : ∃ x, xs[i]? = some x := ⟨_, List.getElem?_eq_getElem hil⟩
      obtain ⟨p1, a1, a2⟩ := h1.at0 i x hx
      obtain ⟨p2, b1, b2⟩ := h2.at0 i x hx
      have e1 : (x != x) = false := by simp
      simp only [RS, List.cons_append, List.nil_append, Option.isNone_some, Option.isNone_none, Option.isSome_some, Option.isSome_none, Nat.zero_add, Nat.add_zero, Nat.reduceAdd, List.getElem?_cons_zero, List.getElem?_cons_succ, List.length_cons, List.length_nil, List.all_cons, List.all_nil, Bool.and_self, Bool.and_true, Bool.true_and, Option.bind_some, Nat.reduceLeDiff, Nat.reduceEqDiff, Nat.le_refl, and_self, if_true, if_false, List.drop_zero, List.drop_succ_cons, List.take_zero, List.take_succ_cons, List.take_nil, List.drop_nil, true_and, and_true, decide_true, decide_false, Nat.reduceMul, Nat.zero_mul, Nat.one_mul, Nat.mul_one, h1.len, hd, a1, a2, b1, b2, e1, w64s (show i < 1000000000 by omega)]
      exact hR _ _ ⟨i + 1, by omega, by omega, rfl, rfl⟩
    · have hd : decide ((i : Int) < (xs.length : Int)) = false := by simpa using hil
      simp only [RS, List.cons_append, List.nil_append, Option.isNone_some, Option.isNone_none, Option.isSome_some, Option.isSome_none, Nat.zero_add, Nat.add_zero, Nat.reduceAdd, List.getElem?_cons_zero, List.getElem?_cons_succ, List.length_cons, List.length_nil, List.all_cons, List.all_nil, Bool.and_self, Bool.and_true, Bool.true_and, Option.bind_some, Nat.reduceLeDiff, Nat.reduceEqDiff, Nat.le_refl, and_self, if_true, if_false, List.drop_zero, List.drop_succ_cons, List.take_zero, List.take_succ_cons, List.take_nil, List.drop_nil, true_and, and_true, decide_true, decide_false, Nat.reduceMul, Nat.zero_mul, Nat.one_mul, Nat.mul_one, h1.len, hd]
      exact hK
  · rintro s H1 ⟨i, h1, h2, -⟩; omega
abbrev pairV (p r : Nat) : Value := .agg ⟨[ptr p, ptr r]⟩
theorem Other_ok (hk : n.kind < 256) (hs : sat H F) (hK : ∀ H', sat H' F → K n.rval H') : DS Tryz.prog Fi.laybylaw11_Other [n.val] H K := by
  refine use_laybylaw11_Other 0 ?_
  unfold sh_laybylaw11_Other
  have h1 := sat_new (.cells n.row Ty.notes_Note .fix) hs
  have h2 := sat_new (.cells [.int .i64 0, .int .i64 0, .int .i64 0, .int .u32 0, .int .i64 0, .int .u32 0, .int .u64 0] Ty.laybyref11_Note .fix) h1
  have g1 := (sat_get (sat_sub h2)).1
  have g2 := (sat_get h2).1
  have hw : IntKind.i64.wrap (n.kind : Int) = n.kind := w64n (by omega)
  simp only [AH.nx_new] at g2
  simp only [RS, List.cons_append, List.nil_append, Option.isNone_some, Option.isNone_none, Option.isSome_some, Option.isSome_none, Nat.zero_add, Nat.add_zero, Nat.reduceAdd, List.getElem?_cons_zero, List.getElem?_cons_succ, List.length_cons, List.length_nil, List.all_cons, List.all_nil, Bool.and_self, Bool.and_true, Bool.true_and, Option.bind_some, Nat.reduceLeDiff, Nat.reduceEqDiff, Nat.le_refl, and_self, if_true, if_false, List.drop_zero, List.drop_succ_cons, List.take_zero, List.take_succ_cons, List.take_nil, List.drop_nil, true_and, and_true, decide_true, decide_false, Nat.reduceMul, Nat.zero_mul, Nat.one_mul, Nat.mul_one, g1, hw, g2, get_put_eq]
  exact hK _ (sat_sub (sat_sub (sat_put _ h2)))
end
end Go.Proofs.YtiolnpeniklhiaaGreatDoor
