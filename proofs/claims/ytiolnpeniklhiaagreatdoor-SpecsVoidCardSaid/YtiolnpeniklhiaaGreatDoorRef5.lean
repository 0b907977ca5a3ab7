/- The document's answer: the lot.
   Conditions: what stands in memory, as each states it. -/
import Derived.Test.YtiolnpeniklhiaaGreatDoorRef4
namespace Go.Proofs.YtiolnpeniklhiaaGreatDoor
open Go Go.Ab
set_option linter.all false
set_option maxRecDepth 100000
section
variable {H : AH} {F : SL} {K : KV} {s : SS} {r : Nat} {L : PL} {n : NV}
/-- A place's queue turned. -/
theorem q_store {a : Int} {m : Nat} {vq vr w : Value} {xs : List Int} {G : SL} (hm : (a, m) ∈ L)
    (h : sat H (sliceA true w xs * (pts m (.cells ((prOf s a).row a vq vr) Ty.laybyref37_place .fix) * (sliceA true vq (prOf s a).q * (sliceA true vr (prOf s a).rd * (RefX r s L a * G)))))) :
    ∃ H', stO 1 m 1 w H (some (.cells ((prOf s a).row a vq vr) Ty.laybyref37_place .fix)) = some (.tuple ⟨[]⟩, H') ∧ sat H' (RefL r { s with q := upd s.q a xs } L * G) := by
  have cw := slice_cell h
  refine ⟨H.put m (.cells (({ prOf s a with q := xs } : PR).row a w vr) Ty.laybyref37_place .fix), stO_1 _ _ _ _ _ _ _ rfl cw.1 cw.2 (by simp), ?_⟩
  have h2 : sat H (pts m (.cells ((prOf s a).row a vq vr) Ty.laybyref37_place .fix) * (sliceA true w xs * (sliceA true vr (prOf s a).rd * (RefX r s L a * G)))) := sat_sub (A := sliceA true vq (prOf s a).q) (sat_of_eq h (by ac_rfl))
  have h3 := sat_put (.cells (({ prOf s a with q := xs } : PR).row a w vr) Ty.laybyref37_place .fix) h2
  exact ref_close (s' := { s with q := upd s.q a xs }) (x := { prOf s a with q := xs }) hm (sat_plA.2 ⟨w, vr, h3⟩) (prOf_q.trans (if_pos rfl)) (fun b hb => prOf_q.trans (if_neg hb)) rfl rfl rfl
theorem hd1_ne {l : List Int} {t : Int} (ht : 0 ≤ t) (h : l = []) : (hd1 l == t) = false := by
  subst h
  have : ¬ ((-1 : Int) = t) := by omega
  simpa [hd1] using this
theorem rlot_ok {k : Nat} (ho : s.ok) (hn : n.ok) (ha : 0 ≤ n.addr ∧ n.addr < 4294967296) (hto : 0 ≤ n.to ∧ n.to < 4294967296) (hk : n.kind = k) (hks : k = 1 ∨ k = 2 ∨ k = 3 ∨ k = 4 ∨ k = 5) (hs : sat H (RefL r s L * F))
    (hK : ∀ H' L', sat H' (RefL r (deedS k s n) L' * F) → K (.int .i64 (fltS k s n)) H') : DS Tryz.prog Fi.laybyref37_State_lot [ptr r, n.rval] H K := by
  have hflt : fltS k s n = bif mayB k s n then 0 else 2 := by rcases hks with rfl | rfl | rfl | rfl | rfl <;> rfl
  have hdeed : deedS k s n = bif mayB k s n then thenS k s n else s := by
    unfold deedS
    rw [hflt]
    cases mayB k s n <;> rfl
  rw [hflt, hdeed] at hK
  refine use_laybyref37_State_lot (L.length + 5) ?_
  unfold sh_laybyref37_State_lot
  obtain ⟨h1, g1⟩ := rnote_new (n := n) hs
  simp only [RS, List.cons_append, List.nil_append, Option.isNone_some, Option.isNone_none, Option.isSome_some, Option.isSome_none, Nat.zero_add, Nat.add_zero, Nat.reduceAdd, List.getElem?_cons_zero, List.getElem?_cons_succ, List.length_cons, List.length_nil, List.all_cons, List.all_nil, Bool.and_self, Bool.and_true, Bool.true_and, Option.bind_some, Nat.reduceLeDiff, Nat.reduceEqDiff, Nat.le_refl, and_self, if_true, if_false, List.drop_zero, List.drop_succ_cons, List.take_zero, List.take_succ_cons, List.take_nil, List.drop_nil, true_and, and_true, decide_true, decide_false, Nat.reduceMul, Nat.zero_mul, Nat.one_mul, Nat.mul_one, g1]
  refine at_ok ha h1 fun m H1 L' hm hL h2 => ?_
  have hLl : L'.length ≤ L.length + 1 := by rcases hL with rfl | ⟨m', rfl⟩ <;> simp
  have gn := (sat_get (sat_sub h2)).1
  have h3 := ref_open hm h2
  obtain ⟨vq, vr, h4⟩ := sat_plA.1 h3
  have gp0 := (sat_get h4).1
  have hql := ho.qlen n.addr
  have hrow : RowI H1 vq (s.q n.addr) := slice_row (sat_sub h4)
  have h4q : sat H1 (sliceA true vq (s.q n.addr) * (pts m (.cells ((prOf s n.addr).row n.addr vq vr) Ty.laybyref37_place .fix) * (sliceA true vr (prOf s n.addr).rd * (RefX r s L' n.addr * (pts H.nx (.cells n.rrow Ty.laybyref11_Note .fix) * F))))) := sat_of_eq h4 (by show pts _ _ * (sliceA true vq (s.q n.addr) * _) = _; ac_rfl)
  -- what follows a deed that turns the queue
  have gp := gp0
  simp only [prOf] at gp
  simp only [RS, List.cons_append, List.nil_append, Option.isNone_some, Option.isNone_none, Option.isSome_some, Option.isSome_none, Nat.zero_add, Nat.add_zero, Nat.reduceAdd, List.getElem?_cons_zero, List.getElem?_cons_succ, List.length_cons, List.length_nil, List.all_cons, List.all_nil, Bool.and_self, Bool.and_true, Bool.true_and, Option.bind_some, Nat.reduceLeDiff, Nat.reduceEqDiff, Nat.le_refl, and_self, if_true, if_false, List.drop_zero, List.drop_succ_cons, List.take_zero, List.take_succ_cons, List.take_nil, List.drop_nil, true_and, and_true, decide_true, decide_false, Nat.reduceMul, Nat.zero_mul, Nat.one_mul, Nat.mul_one, gn, hk]
  rcases hks with rfl | rfl | rfl | rfl | rfl
  · have b1 : ((((1 : Nat) : Int)) == 1) = true := rfl
    simp only [RS, List.cons_append, List.nil_append, Option.isNone_some, Option.isNone_none, Option.isSome_some, Option.isSome_none, Nat.zero_add, Nat.add_zero, Nat.reduceAdd, List.getElem?_cons_zero, List.getElem?_cons_succ, List.length_cons, List.length_nil, List.all_cons, List.all_nil, Bool.and_self, Bool.and_true, Bool.true_and, Option.bind_some, Nat.reduceLeDiff, Nat.reduceEqDiff, Nat.le_refl, and_self, if_true, if_false, List.drop_zero, List.drop_succ_cons, List.take_zero, List.take_succ_cons, List.take_nil, List.drop_nil, true_and, and_true, decide_true, decide_false, Nat.reduceMul, Nat.zero_mul, Nat.one_mul, Nat.mul_one, b1]
    obtain ⟨vp, vw, ws, hrr, h5⟩ := sat_RefL.1 h2
    have gr := (sat_get h5).1
    have hlen := own_len (sat_sub h5) L'.length (by unfold prow; simp) (by omega)
    have hl32 := few32 hrr
    simp only [hdR] at gr
    refine lp_rule (fun k t H' => ∃ i : Nat, i ≤ L'.length ∧ L'.length < k + i ∧ (∀ j, j < i → ∀ y, L'[j]? = some y → n.thread ∉ s.q y.1) ∧ t = (ptr r, ptr H.nx, ptr m, Value.int .i64 (i : Int), ()) ∧ H' = H1) ?_ ?_ ⟨0, by omega, by omega, fun j hj => by omega, rfl, rfl⟩
    · rintro k t H' ⟨i, hi, hk, hno, rfl, rfl⟩ R hR
      by_cases hil : i < L'.length
      · have hd : decide ((i : Int) < (L'.length : Int)) = true := decide_eq_true (by omega)
        obtain ⟨y, hy⟩ : ∃ y, L'[i]? = some y := ⟨_, List.getElem?_eq_getElem hil⟩
        have hym := List.mem_of_getElem? hy
        obtain ⟨p, e1, e2⟩ := pl_at (sat_sub h5) hy
        obtain ⟨vq2, vr2, h6⟩ := sat_plA.1 (ref_open (n := y.2) (a := y.1) hym h2)
        have gy := (sat_get h6).1
        have hw : IntKind.i64.wrap ((i : Int) + 1) = ((i + 1 : Nat) : Int) := by rw [w64n (by omega)]; omega
        have hry : RowI H' vq2 (s.q y.1) := slice_row (sat_sub h6)
        simp only [RS, List.cons_append, List.nil_append, Option.isNone_some, Option.isNone_none, Option.isSome_some, Option.isSome_none, Nat.zero_add, Nat.add_zero, Nat.reduceAdd, List.getElem?_cons_zero, List.getElem?_cons_succ, List.length_cons, List.length_nil, List.all_cons, List.all_nil, Bool.and_self, Bool.and_true, Bool.true_and, Option.bind_some, Nat.reduceLeDiff, Nat.reduceEqDiff, Nat.le_refl, and_self, if_true, if_false, List.drop_zero, List.drop_succ_cons, List.take_zero, List.take_succ_cons, List.take_nil, List.drop_nil, true_and, and_true, decide_true, decide_false, Nat.reduceMul, Nat.zero_mul, Nat.one_mul, Nat.mul_one, gr, hlen, hd, e1, e2, gy, gn]
        refine rhas_ok hry (by have := ho.qlen y.1; omega) ?_
        by_cases hin : n.thread ∈ s.q y.1
        · have hb : decide (n.thread ∈ s.q y.1) = true := by simpa using hin
          have hmay : mayB 1 s n = false := by simp only [mayB, Bool.not_eq_false', decide_eq_true_iff]; exact ⟨_, hin⟩
          rw [hmay] at hK
          simp only [hb, RS, List.cons_append, List.nil_append, Option.isNone_some, Option.isNone_none, Option.isSome_some, Option.isSome_none, Nat.zero_add, Nat.add_zero, Nat.reduceAdd, List.getElem?_cons_zero, List.getElem?_cons_succ, List.length_cons, List.length_nil, List.all_cons, List.all_nil, Bool.and_self, Bool.and_true, Bool.true_and, Option.bind_some, Nat.reduceLeDiff, Nat.reduceEqDiff, Nat.le_refl, and_self, if_true, if_false, List.drop_zero, List.drop_succ_cons, List.take_zero, List.take_succ_cons, List.take_nil, List.drop_nil, true_and, and_true, decide_true, decide_false, Nat.reduceMul, Nat.zero_mul, Nat.one_mul, Nat.mul_one]
          exact hK _ L' (rnote_drop (n := n) h2)
        · have hb : decide (n.thread ∈ s.q y.1) = false := by simpa using hin
          simp only [hb, RS, List.cons_append, List.nil_append, Option.isNone_some, Option.isNone_none, Option.isSome_some, Option.isSome_none, Nat.zero_add, Nat.add_zero, Nat.reduceAdd, List.getElem?_cons_zero, List.getElem?_cons_succ, List.length_cons, List.length_nil, List.all_cons, List.all_nil, Bool.and_self, Bool.and_true, Bool.true_and, Option.bind_some, Nat.reduceLeDiff, Nat.reduceEqDiff, Nat.le_refl, and_self, if_true, if_false, List.drop_zero, List.drop_succ_cons, List.take_zero, List.take_succ_cons, List.take_nil, List.drop_nil, true_and, and_true, decide_true, decide_false, Nat.reduceMul, Nat.zero_mul, Nat.one_mul, Nat.mul_one, hw]
          refine hR _ _ ⟨i + 1, by omega, by omega, fun j hj z hz => ?_, rfl, rfl⟩
          by_cases hji : j = i
          · subst hji; rw [hy] at hz; cases hz; exact hin
          · exact hno j (by omega) z hz
      · have hd : decide ((i : Int) < (L'.length : Int)) = false := decide_eq_false (by omega)
        have hmay : mayB 1 s n = true := by
          simp only [mayB, Bool.not_eq_true', decide_eq_false_iff_not]
          rintro ⟨a, hin⟩
          by_cases hal : a ∈ L'.map (·.1)
          · obtain ⟨y, hy, rfl⟩ := List.mem_map.1 hal
            obtain ⟨j, hj⟩ := List.mem_iff_getElem?.1 hy
            have hjl := (List.getElem?_eq_some_iff.1 hj).1
            exact hno j (by omega) y hj hin
          · have hz := congrArg PR.q (hrr.no a hal)
            have : s.q a = [] := hz
            rw [this] at hin; cases hin
        rw [hmay] at hK
        simp only [RS, List.cons_append, List.nil_append, Option.isNone_some, Option.isNone_none, Option.isSome_some, Option.isSome_none, Nat.zero_add, Nat.add_zero, Nat.reduceAdd, List.getElem?_cons_zero, List.getElem?_cons_succ, List.length_cons, List.length_nil, List.all_cons, List.all_nil, Bool.and_self, Bool.and_true, Bool.true_and, Option.bind_some, Nat.reduceLeDiff, Nat.reduceEqDiff, Nat.le_refl, and_self, if_true, if_false, List.drop_zero, List.drop_succ_cons, List.take_zero, List.take_succ_cons, List.take_nil, List.drop_nil, true_and, and_true, decide_true, decide_false, Nat.reduceMul, Nat.zero_mul, Nat.one_mul, Nat.mul_one, gr, hlen, hd, gp, gn]
        refine with_ok h4q (by omega) fun w H2 h6 => ?_
        have h7 := sat_of_eq (B := sliceA true w (s.q n.addr ++ [n.thread]) * (pts m (.cells ((prOf s n.addr).row n.addr vq vr) Ty.laybyref37_place .fix) * (sliceA true vq (prOf s n.addr).q * (sliceA true vr (prOf s n.addr).rd * (RefX r s L' n.addr * (pts H.nx (.cells n.rrow Ty.laybyref11_Note .fix) * F)))))) h6 (by show _ * (sliceA true vq (prOf s n.addr).q * _) = _; ac_rfl)
        obtain ⟨H3, e3, h8⟩ := q_store hm h7
        have g7 := (sat_get (sat_sub h7)).1
        simp only [RS, List.cons_append, List.nil_append, Option.isNone_some, Option.isNone_none, Option.isSome_some, Option.isSome_none, Nat.zero_add, Nat.add_zero, Nat.reduceAdd, List.getElem?_cons_zero, List.getElem?_cons_succ, List.length_cons, List.length_nil, List.all_cons, List.all_nil, Bool.and_self, Bool.and_true, Bool.true_and, Option.bind_some, Nat.reduceLeDiff, Nat.reduceEqDiff, Nat.le_refl, and_self, if_true, if_false, List.drop_zero, List.drop_succ_cons, List.take_zero, List.take_succ_cons, List.take_nil, List.drop_nil, true_and, and_true, decide_true, decide_false, Nat.reduceMul, Nat.zero_mul, Nat.one_mul, Nat.mul_one, g7, e3]
        exact hK _ L' (rnote_drop (n := n) h8)
    · rintro t H' ⟨i, h1, h2, -⟩; omega
  · have b1 : ((((2 : Nat) : Int)) == 1) = false := rfl
    have b2 : ((((2 : Nat) : Int)) == 2) = true := rfl
    have b4 : ((((2 : Nat) : Int)) == 4) = false := rfl
    have hot := hn.ot (by simp [NV.oth, hk])
    simp only [RS, List.cons_append, List.nil_append, Option.isNone_some, Option.isNone_none, Option.isSome_some, Option.isSome_none, Nat.zero_add, Nat.add_zero, Nat.reduceAdd, List.getElem?_cons_zero, List.getElem?_cons_succ, List.length_cons, List.length_nil, List.all_cons, List.all_nil, Bool.and_self, Bool.and_true, Bool.true_and, Option.bind_some, Nat.reduceLeDiff, Nat.reduceEqDiff, Nat.le_refl, and_self, if_true, if_false, List.drop_zero, List.drop_succ_cons, List.take_zero, List.take_succ_cons, List.take_nil, List.drop_nil, true_and, and_true, decide_true, decide_false, Nat.reduceMul, Nat.zero_mul, Nat.one_mul, Nat.mul_one, b1, b2]
    refine jn_of ?_
    simp only [RS, List.cons_append, List.nil_append, Option.isNone_some, Option.isNone_none, Option.isSome_some, Option.isSome_none, Nat.zero_add, Nat.add_zero, Nat.reduceAdd, List.getElem?_cons_zero, List.getElem?_cons_succ, List.length_cons, List.length_nil, List.all_cons, List.all_nil, Bool.and_self, Bool.and_true, Bool.true_and, Option.bind_some, Nat.reduceLeDiff, Nat.reduceEqDiff, Nat.le_refl, and_self, if_true, if_false, List.drop_zero, List.drop_succ_cons, List.take_zero, List.take_succ_cons, List.take_nil, List.drop_nil, true_and, and_true, decide_true, decide_false, Nat.reduceMul, Nat.zero_mul, Nat.one_mul, Nat.mul_one, b2]
    refine jn_rule (fun t H' => t = (ptr r, ptr H.nx, ptr m, ()) ∧ H' = H1 ∧ mayB 2 s n = true) ?_ ?_
    · rintro t H' ⟨rfl, rfl, hmay⟩
      rw [hmay] at hK
      simp only [RS, List.cons_append, List.nil_append, Option.isNone_some, Option.isNone_none, Option.isSome_some, Option.isSome_none, Nat.zero_add, Nat.add_zero, Nat.reduceAdd, List.getElem?_cons_zero, List.getElem?_cons_succ, List.length_cons, List.length_nil, List.all_cons, List.all_nil, Bool.and_self, Bool.and_true, Bool.true_and, Option.bind_some, Nat.reduceLeDiff, Nat.reduceEqDiff, Nat.le_refl, and_self, if_true, if_false, List.drop_zero, List.drop_succ_cons, List.take_zero, List.take_succ_cons, List.take_nil, List.drop_nil, true_and, and_true, decide_true, decide_false, Nat.reduceMul, Nat.zero_mul, Nat.one_mul, Nat.mul_one, gp, gn]
      refine without_ok h4q (by omega) fun w H2 h6 => ?_
      have h7 := sat_of_eq (B := sliceA true w (wo n.other (s.q n.addr)) * (pts m (.cells ((prOf s n.addr).row n.addr vq vr) Ty.laybyref37_place .fix) * (sliceA true vq (prOf s n.addr).q * (sliceA true vr (prOf s n.addr).rd * (RefX r s L' n.addr * (pts H.nx (.cells n.rrow Ty.laybyref11_Note .fix) * F)))))) h6 (by show _ * (sliceA true vq (prOf s n.addr).q * _) = _; ac_rfl)
      obtain ⟨H3, e3, h8⟩ := q_store hm h7
      have g7 := (sat_get (sat_sub h7)).1
      have gn3 := (sat_get (sat_sub h8)).1
      simp only [RS, List.cons_append, List.nil_append, Option.isNone_some, Option.isNone_none, Option.isSome_some, Option.isSome_none, Nat.zero_add, Nat.add_zero, Nat.reduceAdd, List.getElem?_cons_zero, List.getElem?_cons_succ, List.length_cons, List.length_nil, List.all_cons, List.all_nil, Bool.and_self, Bool.and_true, Bool.true_and, Option.bind_some, Nat.reduceLeDiff, Nat.reduceEqDiff, Nat.le_refl, and_self, if_true, if_false, List.drop_zero, List.drop_succ_cons, List.take_zero, List.take_succ_cons, List.take_nil, List.drop_nil, true_and, and_true, decide_true, decide_false, Nat.reduceMul, Nat.zero_mul, Nat.one_mul, Nat.mul_one, g7, e3, gn3, hk, b4]
      exact hK _ L' (rnote_drop (n := n) h8)
    · intro R hR
      refine jn_of ?_
      simp only [RS, List.cons_append, List.nil_append, Option.isNone_some, Option.isNone_none, Option.isSome_some, Option.isSome_none, Nat.zero_add, Nat.add_zero, Nat.reduceAdd, List.getElem?_cons_zero, List.getElem?_cons_succ, List.length_cons, List.length_nil, List.all_cons, List.all_nil, Bool.and_self, Bool.and_true, Bool.true_and, Option.bind_some, Nat.reduceLeDiff, Nat.reduceEqDiff, Nat.le_refl, and_self, if_true, if_false, List.drop_zero, List.drop_succ_cons, List.take_zero, List.take_succ_cons, List.take_nil, List.drop_nil, true_and, and_true, decide_true, decide_false, Nat.reduceMul, Nat.zero_mul, Nat.one_mul, Nat.mul_one, gp, hrow.len, leneq]
      cases hq : s.q n.addr with
      | nil =>
        have hmay : mayB 2 s n = false := by simp only [mayB]; exact hd1_ne hot.1 hq
        rw [hmay] at hK
        have hd : decide (([] : List Int) = []) = true := rfl
        simp only [gdD, RS, List.cons_append, List.nil_append, Option.isNone_some, Option.isNone_none, Option.isSome_some, Option.isSome_none, Nat.zero_add, Nat.add_zero, Nat.reduceAdd, List.getElem?_cons_zero, List.getElem?_cons_succ, List.length_cons, List.length_nil, List.all_cons, List.all_nil, Bool.and_self, Bool.and_true, Bool.true_and, Option.bind_some, Nat.reduceLeDiff, Nat.reduceEqDiff, Nat.le_refl, and_self, if_true, if_false, List.drop_zero, List.drop_succ_cons, List.take_zero, List.take_succ_cons, List.take_nil, List.drop_nil, true_and, and_true, decide_true, decide_false, Nat.reduceMul, Nat.zero_mul, Nat.one_mul, Nat.mul_one, hd]
        exact hK _ L' (rnote_drop (n := n) h2)
      | cons x xs =>
        have hd : decide ((x :: xs) = []) = false := by simp
        obtain ⟨p, e1, e2⟩ := hrow.at0 0 x (by rw [hq]; rfl)
        have e1' : ixS 1 vq (.int .i64 0) = some p := e1
        have hmm : mayB 2 s n = (x == n.other) := by simp only [mayB, hq]; rfl
        simp only [gdD, hd, RS, List.cons_append, List.nil_append, Option.isNone_some, Option.isNone_none, Option.isSome_some, Option.isSome_none, Nat.zero_add, Nat.add_zero, Nat.reduceAdd, List.getElem?_cons_zero, List.getElem?_cons_succ, List.length_cons, List.length_nil, List.all_cons, List.all_nil, Bool.and_self, Bool.and_true, Bool.true_and, Option.bind_some, Nat.reduceLeDiff, Nat.reduceEqDiff, Nat.le_refl, and_self, if_true, if_false, List.drop_zero, List.drop_succ_cons, List.take_zero, List.take_succ_cons, List.take_nil, List.drop_nil, true_and, and_true, decide_true, decide_false, Nat.reduceMul, Nat.zero_mul, Nat.one_mul, Nat.mul_one, gp, e1', e2, gn]
        cases hx : (x != n.other) with
        | true =>
          have hmay : mayB 2 s n = false := by rw [hmm]; simpa [bne] using hx
          rw [hmay] at hK
          simp only [RS, List.cons_append, List.nil_append, Option.isNone_some, Option.isNone_none, Option.isSome_some, Option.isSome_none, Nat.zero_add, Nat.add_zero, Nat.reduceAdd, List.getElem?_cons_zero, List.getElem?_cons_succ, List.length_cons, List.length_nil, List.all_cons, List.all_nil, Bool.and_self, Bool.and_true, Bool.true_and, Option.bind_some, Nat.reduceLeDiff, Nat.reduceEqDiff, Nat.le_refl, and_self, if_true, if_false, List.drop_zero, List.drop_succ_cons, List.take_zero, List.take_succ_cons, List.take_nil, List.drop_nil, true_and, and_true, decide_true, decide_false, Nat.reduceMul, Nat.zero_mul, Nat.one_mul, Nat.mul_one]
          exact hK _ L' (rnote_drop (n := n) h2)
        | false =>
          have hmay : mayB 2 s n = true := by rw [hmm]; simpa [bne] using hx
          simp only [RS, List.cons_append, List.nil_append, Option.isNone_some, Option.isNone_none, Option.isSome_some, Option.isSome_none, Nat.zero_add, Nat.add_zero, Nat.reduceAdd, List.getElem?_cons_zero, List.getElem?_cons_succ, List.length_cons, List.length_nil, List.all_cons, List.all_nil, Bool.and_self, Bool.and_true, Bool.true_and, Option.bind_some, Nat.reduceLeDiff, Nat.reduceEqDiff, Nat.le_refl, and_self, if_true, if_false, List.drop_zero, List.drop_succ_cons, List.take_zero, List.take_succ_cons, List.take_nil, List.drop_nil, true_and, and_true, decide_true, decide_false, Nat.reduceMul, Nat.zero_mul, Nat.one_mul, Nat.mul_one]
          exact hR _ _ ⟨rfl, rfl, hmay⟩
  · have b1 : ((((3 : Nat) : Int)) == 1) = false := rfl
    have b2 : ((((3 : Nat) : Int)) == 2) = false := rfl
    have b3 : ((((3 : Nat) : Int)) == 3) = true := rfl
    have b4 : ((((3 : Nat) : Int)) == 4) = false := rfl
    simp only [RS, List.cons_append, List.nil_append, Option.isNone_some, Option.isNone_none, Option.isSome_some, Option.isSome_none, Nat.zero_add, Nat.add_zero, Nat.reduceAdd, List.getElem?_cons_zero, List.getElem?_cons_succ, List.length_cons, List.length_nil, List.all_cons, List.all_nil, Bool.and_self, Bool.and_true, Bool.true_and, Option.bind_some, Nat.reduceLeDiff, Nat.reduceEqDiff, Nat.le_refl, and_self, if_true, if_false, List.drop_zero, List.drop_succ_cons, List.take_zero, List.take_succ_cons, List.take_nil, List.drop_nil, true_and, and_true, decide_true, decide_false, Nat.reduceMul, Nat.zero_mul, Nat.one_mul, Nat.mul_one, b1]
    refine jn_of ?_
    simp only [RS, List.cons_append, List.nil_append, Option.isNone_some, Option.isNone_none, Option.isSome_some, Option.isSome_none, Nat.zero_add, Nat.add_zero, Nat.reduceAdd, List.getElem?_cons_zero, List.getElem?_cons_succ, List.length_cons, List.length_nil, List.all_cons, List.all_nil, Bool.and_self, Bool.and_true, Bool.true_and, Option.bind_some, Nat.reduceLeDiff, Nat.reduceEqDiff, Nat.le_refl, and_self, if_true, if_false, List.drop_zero, List.drop_succ_cons, List.take_zero, List.take_succ_cons, List.take_nil, List.drop_nil, true_and, and_true, decide_true, decide_false, Nat.reduceMul, Nat.zero_mul, Nat.one_mul, Nat.mul_one, b2, b3, b4, gp, gn]
    refine rhas_ok hrow (by omega) ?_
    simp only [RS, List.cons_append, List.nil_append, Option.isNone_some, Option.isNone_none, Option.isSome_some, Option.isSome_none, Nat.zero_add, Nat.add_zero, Nat.reduceAdd, List.getElem?_cons_zero, List.getElem?_cons_succ, List.length_cons, List.length_nil, List.all_cons, List.all_nil, Bool.and_self, Bool.and_true, Bool.true_and, Option.bind_some, Nat.reduceLeDiff, Nat.reduceEqDiff, Nat.le_refl, and_self, if_true, if_false, List.drop_zero, List.drop_succ_cons, List.take_zero, List.take_succ_cons, List.take_nil, List.drop_nil, true_and, and_true, decide_true, decide_false, Nat.reduceMul, Nat.zero_mul, Nat.one_mul, Nat.mul_one]
    cases hb : decide (n.other ∈ s.q n.addr) with
    | false =>
      have hmay : mayB 3 s n = false := hb
      rw [hmay] at hK
      simp only [RS, List.cons_append, List.nil_append, Option.isNone_some, Option.isNone_none, Option.isSome_some, Option.isSome_none, Nat.zero_add, Nat.add_zero, Nat.reduceAdd, List.getElem?_cons_zero, List.getElem?_cons_succ, List.length_cons, List.length_nil, List.all_cons, List.all_nil, Bool.and_self, Bool.and_true, Bool.true_and, Option.bind_some, Nat.reduceLeDiff, Nat.reduceEqDiff, Nat.le_refl, and_self, if_true, if_false, List.drop_zero, List.drop_succ_cons, List.take_zero, List.take_succ_cons, List.take_nil, List.drop_nil, true_and, and_true, decide_true, decide_false, Nat.reduceMul, Nat.zero_mul, Nat.one_mul, Nat.mul_one, Bool.not_false]
      exact hK _ L' (rnote_drop (n := n) h2)
    | true =>
      have hmay : mayB 3 s n = true := hb
      rw [hmay] at hK
      simp only [RS, List.cons_append, List.nil_append, Option.isNone_some, Option.isNone_none, Option.isSome_some, Option.isSome_none, Nat.zero_add, Nat.add_zero, Nat.reduceAdd, List.getElem?_cons_zero, List.getElem?_cons_succ, List.length_cons, List.length_nil, List.all_cons, List.all_nil, Bool.and_self, Bool.and_true, Bool.true_and, Option.bind_some, Nat.reduceLeDiff, Nat.reduceEqDiff, Nat.le_refl, and_self, if_true, if_false, List.drop_zero, List.drop_succ_cons, List.take_zero, List.take_succ_cons, List.take_nil, List.drop_nil, true_and, and_true, decide_true, decide_false, Nat.reduceMul, Nat.zero_mul, Nat.one_mul, Nat.mul_one, Bool.not_true, gp, gn]
      refine without_ok h4q (by omega) fun w H2 h6 => ?_
      have h7 := sat_of_eq (B := sliceA true w (wo n.other (s.q n.addr)) * (pts m (.cells ((prOf s n.addr).row n.addr vq vr) Ty.laybyref37_place .fix) * (sliceA true vq (prOf s n.addr).q * (sliceA true vr (prOf s n.addr).rd * (RefX r s L' n.addr * (pts H.nx (.cells n.rrow Ty.laybyref11_Note .fix) * F)))))) h6 (by show _ * (sliceA true vq (prOf s n.addr).q * _) = _; ac_rfl)
      obtain ⟨H3, e3, h8⟩ := q_store hm h7
      have g7 := (sat_get (sat_sub h7)).1
      simp only [RS, List.cons_append, List.nil_append, Option.isNone_some, Option.isNone_none, Option.isSome_some, Option.isSome_none, Nat.zero_add, Nat.add_zero, Nat.reduceAdd, List.getElem?_cons_zero, List.getElem?_cons_succ, List.length_cons, List.length_nil, List.all_cons, List.all_nil, Bool.and_self, Bool.and_true, Bool.true_and, Option.bind_some, Nat.reduceLeDiff, Nat.reduceEqDiff, Nat.le_refl, and_self, if_true, if_false, List.drop_zero, List.drop_succ_cons, List.take_zero, List.take_succ_cons, List.take_nil, List.drop_nil, true_and, and_true, decide_true, decide_false, Nat.reduceMul, Nat.zero_mul, Nat.one_mul, Nat.mul_one, g7, e3]
      exact hK _ L' (rnote_drop (n := n) h8)
  · have b1 : ((((4 : Nat) : Int)) == 1) = false := rfl
    have b2 : ((((4 : Nat) : Int)) == 2) = false := rfl
    have b4 : ((((4 : Nat) : Int)) == 4) = true := rfl
    have hot := hn.ot (by simp [NV.oth, hk])
    simp only [RS, List.cons_append, List.nil_append, Option.isNone_some, Option.isNone_none, Option.isSome_some, Option.isSome_none, Nat.zero_add, Nat.add_zero, Nat.reduceAdd, List.getElem?_cons_zero, List.getElem?_cons_succ, List.length_cons, List.length_nil, List.all_cons, List.all_nil, Bool.and_self, Bool.and_true, Bool.true_and, Option.bind_some, Nat.reduceLeDiff, Nat.reduceEqDiff, Nat.le_refl, and_self, if_true, if_false, List.drop_zero, List.drop_succ_cons, List.take_zero, List.take_succ_cons, List.take_nil, List.drop_nil, true_and, and_true, decide_true, decide_false, Nat.reduceMul, Nat.zero_mul, Nat.one_mul, Nat.mul_one, b1]
    refine jn_of ?_
    simp only [RS, List.cons_append, List.nil_append, Option.isNone_some, Option.isNone_none, Option.isSome_some, Option.isSome_none, Nat.zero_add, Nat.add_zero, Nat.reduceAdd, List.getElem?_cons_zero, List.getElem?_cons_succ, List.length_cons, List.length_nil, List.all_cons, List.all_nil, Bool.and_self, Bool.and_true, Bool.true_and, Option.bind_some, Nat.reduceLeDiff, Nat.reduceEqDiff, Nat.le_refl, and_self, if_true, if_false, List.drop_zero, List.drop_succ_cons, List.take_zero, List.take_succ_cons, List.take_nil, List.drop_nil, true_and, and_true, decide_true, decide_false, Nat.reduceMul, Nat.zero_mul, Nat.one_mul, Nat.mul_one, b2, b4]
    refine jn_rule (fun t H' => t = (ptr r, ptr H.nx, ptr m, ()) ∧ H' = H1 ∧ mayB 4 s n = true) ?_ ?_
    · rintro t H' ⟨rfl, rfl, hmay⟩
      rw [hmay] at hK
      simp only [RS, List.cons_append, List.nil_append, Option.isNone_some, Option.isNone_none, Option.isSome_some, Option.isSome_none, Nat.zero_add, Nat.add_zero, Nat.reduceAdd, List.getElem?_cons_zero, List.getElem?_cons_succ, List.length_cons, List.length_nil, List.all_cons, List.all_nil, Bool.and_self, Bool.and_true, Bool.true_and, Option.bind_some, Nat.reduceLeDiff, Nat.reduceEqDiff, Nat.le_refl, and_self, if_true, if_false, List.drop_zero, List.drop_succ_cons, List.take_zero, List.take_succ_cons, List.take_nil, List.drop_nil, true_and, and_true, decide_true, decide_false, Nat.reduceMul, Nat.zero_mul, Nat.one_mul, Nat.mul_one, gp, gn]
      refine without_ok h4q (by omega) fun w H2 h6 => ?_
      have h7 := sat_of_eq (B := sliceA true w (wo n.other (s.q n.addr)) * (pts m (.cells ((prOf s n.addr).row n.addr vq vr) Ty.laybyref37_place .fix) * (sliceA true vq (prOf s n.addr).q * (sliceA true vr (prOf s n.addr).rd * (RefX r s L' n.addr * (pts H.nx (.cells n.rrow Ty.laybyref11_Note .fix) * F)))))) h6 (by show _ * (sliceA true vq (prOf s n.addr).q * _) = _; ac_rfl)
      obtain ⟨H3, e3, h8⟩ := q_store hm h7
      have g7 := (sat_get (sat_sub h7)).1
      have gn3 := (sat_get (sat_sub h8)).1
      simp only [RS, List.cons_append, List.nil_append, Option.isNone_some, Option.isNone_none, Option.isSome_some, Option.isSome_none, Nat.zero_add, Nat.add_zero, Nat.reduceAdd, List.getElem?_cons_zero, List.getElem?_cons_succ, List.length_cons, List.length_nil, List.all_cons, List.all_nil, Bool.and_self, Bool.and_true, Bool.true_and, Option.bind_some, Nat.reduceLeDiff, Nat.reduceEqDiff, Nat.le_refl, and_self, if_true, if_false, List.drop_zero, List.drop_succ_cons, List.take_zero, List.take_succ_cons, List.take_nil, List.drop_nil, true_and, and_true, decide_true, decide_false, Nat.reduceMul, Nat.zero_mul, Nat.one_mul, Nat.mul_one, g7, e3, gn3, hk, b4]
      refine at_ok hto h8 fun m2 H4 L2 hm2 hL2 h9 => ?_
      obtain ⟨vq2, vr2, h10⟩ := sat_plA.1 (ref_open hm2 h9)
      have g10 := (sat_get h10).1
      have gn4 := (sat_get (sat_sub h9)).1
      have ho2 := ok_out ho n.addr n.other
      generalize hs2 : ({ s with q := upd s.q n.addr (wo n.other (s.q n.addr)) } : SS) = s2 at h9 h10 g10 ho2
      have g10' := g10
      simp only [prOf] at g10'
      simp only [RS, List.cons_append, List.nil_append, Option.isNone_some, Option.isNone_none, Option.isSome_some, Option.isSome_none, Nat.zero_add, Nat.add_zero, Nat.reduceAdd, List.getElem?_cons_zero, List.getElem?_cons_succ, List.length_cons, List.length_nil, List.all_cons, List.all_nil, Bool.and_self, Bool.and_true, Bool.true_and, Option.bind_some, Nat.reduceLeDiff, Nat.reduceEqDiff, Nat.le_refl, and_self, if_true, if_false, List.drop_zero, List.drop_succ_cons, List.take_zero, List.take_succ_cons, List.take_nil, List.drop_nil, true_and, and_true, decide_true, decide_false, Nat.reduceMul, Nat.zero_mul, Nat.one_mul, Nat.mul_one, g10', gn4]
      refine with_ok (sat_of_eq h10 (by show pts _ _ * (sliceA true vq2 (s2.q n.to) * _) = sliceA true vq2 (s2.q n.to) * (pts m2 (.cells ((prOf s2 n.to).row n.to vq2 vr2) Ty.laybyref37_place .fix) * (sliceA true vr2 (prOf s2 n.to).rd * (RefX r s2 L2 n.to * (pts H.nx (.cells n.rrow Ty.laybyref11_Note .fix) * F)))); ac_rfl)) (by have := ho2.qlen n.to; omega) fun w2 H5 h11 => ?_
      have h12 := sat_of_eq (B := sliceA true w2 (s2.q n.to ++ [n.other]) * (pts m2 (.cells ((prOf s2 n.to).row n.to vq2 vr2) Ty.laybyref37_place .fix) * (sliceA true vq2 (prOf s2 n.to).q * (sliceA true vr2 (prOf s2 n.to).rd * (RefX r s2 L2 n.to * (pts H.nx (.cells n.rrow Ty.laybyref11_Note .fix) * F)))))) h11 (by show _ * (sliceA true vq2 (prOf s2 n.to).q * _) = _; ac_rfl)
      obtain ⟨H6, e6, h13⟩ := q_store hm2 h12
      have g12 := (sat_get (sat_sub h12)).1
      simp only [RS, List.cons_append, List.nil_append, Option.isNone_some, Option.isNone_none, Option.isSome_some, Option.isSome_none, Nat.zero_add, Nat.add_zero, Nat.reduceAdd, List.getElem?_cons_zero, List.getElem?_cons_succ, List.length_cons, List.length_nil, List.all_cons, List.all_nil, Bool.and_self, Bool.and_true, Bool.true_and, Option.bind_some, Nat.reduceLeDiff, Nat.reduceEqDiff, Nat.le_refl, and_self, if_true, if_false, List.drop_zero, List.drop_succ_cons, List.take_zero, List.take_succ_cons, List.take_nil, List.drop_nil, true_and, and_true, decide_true, decide_false, Nat.reduceMul, Nat.zero_mul, Nat.one_mul, Nat.mul_one, g12, e6]
      rw [← hs2] at h13
      exact hK _ L2 (rnote_drop (n := n) h13)
    · intro R hR
      refine jn_of ?_
      simp only [RS, List.cons_append, List.nil_append, Option.isNone_some, Option.isNone_none, Option.isSome_some, Option.isSome_none, Nat.zero_add, Nat.add_zero, Nat.reduceAdd, List.getElem?_cons_zero, List.getElem?_cons_succ, List.length_cons, List.length_nil, List.all_cons, List.all_nil, Bool.and_self, Bool.and_true, Bool.true_and, Option.bind_some, Nat.reduceLeDiff, Nat.reduceEqDiff, Nat.le_refl, and_self, if_true, if_false, List.drop_zero, List.drop_succ_cons, List.take_zero, List.take_succ_cons, List.take_nil, List.drop_nil, true_and, and_true, decide_true, decide_false, Nat.reduceMul, Nat.zero_mul, Nat.one_mul, Nat.mul_one, gp, hrow.len, leneq]
      cases hq : s.q n.addr with
      | nil =>
        have hmay : mayB 4 s n = false := by simp only [mayB]; exact hd1_ne hot.1 hq
        rw [hmay] at hK
        have hd : decide (([] : List Int) = []) = true := rfl
        simp only [gdD, RS, List.cons_append, List.nil_append, Option.isNone_some, Option.isNone_none, Option.isSome_some, Option.isSome_none, Nat.zero_add, Nat.add_zero, Nat.reduceAdd, List.getElem?_cons_zero, List.getElem?_cons_succ, List.length_cons, List.length_nil, List.all_cons, List.all_nil, Bool.and_self, Bool.and_true, Bool.true_and, Option.bind_some, Nat.reduceLeDiff, Nat.reduceEqDiff, Nat.le_refl, and_self, if_true, if_false, List.drop_zero, List.drop_succ_cons, List.take_zero, List.take_succ_cons, List.take_nil, List.drop_nil, true_and, and_true, decide_true, decide_false, Nat.reduceMul, Nat.zero_mul, Nat.one_mul, Nat.mul_one, hd]
        exact hK _ L' (rnote_drop (n := n) h2)
      | cons x xs =>
        have hd : decide ((x :: xs) = []) = false := by simp
        obtain ⟨p, e1, e2⟩ := hrow.at0 0 x (by rw [hq]; rfl)
        have e1' : ixS 1 vq (.int .i64 0) = some p := e1
        have hmm : mayB 4 s n = (x == n.other) := by simp only [mayB, hq]; rfl
        simp only [gdD, hd, RS, List.cons_append, List.nil_append, Option.isNone_some, Option.isNone_none, Option.isSome_some, Option.isSome_none, Nat.zero_add, Nat.add_zero, Nat.reduceAdd, List.getElem?_cons_zero, List.getElem?_cons_succ, List.length_cons, List.length_nil, List.all_cons, List.all_nil, Bool.and_self, Bool.and_true, Bool.true_and, Option.bind_some, Nat.reduceLeDiff, Nat.reduceEqDiff, Nat.le_refl, and_self, if_true, if_false, List.drop_zero, List.drop_succ_cons, List.take_zero, List.take_succ_cons, List.take_nil, List.drop_nil, true_and, and_true, decide_true, decide_false, Nat.reduceMul, Nat.zero_mul, Nat.one_mul, Nat.mul_one, gp, e1', e2, gn]
        cases hx : (x != n.other) with
        | true =>
          have hmay : mayB 4 s n = false := by rw [hmm]; simpa [bne] using hx
          rw [hmay] at hK
          simp only [RS, List.cons_append, List.nil_append, Option.isNone_some, Option.isNone_none, Option.isSome_some, Option.isSome_none, Nat.zero_add, Nat.add_zero, Nat.reduceAdd, List.getElem?_cons_zero, List.getElem?_cons_succ, List.length_cons, List.length_nil, List.all_cons, List.all_nil, Bool.and_self, Bool.and_true, Bool.true_and, Option.bind_some, Nat.reduceLeDiff, Nat.reduceEqDiff, Nat.le_refl, and_self, if_true, if_false, List.drop_zero, List.drop_succ_cons, List.take_zero, List.take_succ_cons, List.take_nil, List.drop_nil, true_and, and_true, decide_true, decide_false, Nat.reduceMul, Nat.zero_mul, Nat.one_mul, Nat.mul_one]
          exact hK _ L' (rnote_drop (n := n) h2)
        | false =>
          have hmay : mayB 4 s n = true := by rw [hmm]; simpa [bne] using hx
          simp only [RS, List.cons_append, List.nil_append, Option.isNone_some, Option.isNone_none, Option.isSome_some, Option.isSome_none, Nat.zero_add, Nat.add_zero, Nat.reduceAdd, List.getElem?_cons_zero, List.getElem?_cons_succ, List.length_cons, List.length_nil, List.all_cons, List.all_nil, Bool.and_self, Bool.and_true, Bool.true_and, Option.bind_some, Nat.reduceLeDiff, Nat.reduceEqDiff, Nat.le_refl, and_self, if_true, if_false, List.drop_zero, List.drop_succ_cons, List.take_zero, List.take_succ_cons, List.take_nil, List.drop_nil, true_and, and_true, decide_true, decide_false, Nat.reduceMul, Nat.zero_mul, Nat.one_mul, Nat.mul_one]
          exact hR _ _ ⟨rfl, rfl, hmay⟩
  · have b1 : ((((5 : Nat) : Int)) == 1) = false := rfl
    have b2 : ((((5 : Nat) : Int)) == 2) = false := rfl
    have b3 : ((((5 : Nat) : Int)) == 3) = false := rfl
    have b4 : ((((5 : Nat) : Int)) == 4) = false := rfl
    simp only [RS, List.cons_append, List.nil_append, Option.isNone_some, Option.isNone_none, Option.isSome_some, Option.isSome_none, Nat.zero_add, Nat.add_zero, Nat.reduceAdd, List.getElem?_cons_zero, List.getElem?_cons_succ, List.length_cons, List.length_nil, List.all_cons, List.all_nil, Bool.and_self, Bool.and_true, Bool.true_and, Option.bind_some, Nat.reduceLeDiff, Nat.reduceEqDiff, Nat.le_refl, and_self, if_true, if_false, List.drop_zero, List.drop_succ_cons, List.take_zero, List.take_succ_cons, List.take_nil, List.drop_nil, true_and, and_true, decide_true, decide_false, Nat.reduceMul, Nat.zero_mul, Nat.one_mul, Nat.mul_one, b1]
    refine jn_of ?_
    simp only [RS, List.cons_append, List.nil_append, Option.isNone_some, Option.isNone_none, Option.isSome_some, Option.isSome_none, Nat.zero_add, Nat.add_zero, Nat.reduceAdd, List.getElem?_cons_zero, List.getElem?_cons_succ, List.length_cons, List.length_nil, List.all_cons, List.all_nil, Bool.and_self, Bool.and_true, Bool.true_and, Option.bind_some, Nat.reduceLeDiff, Nat.reduceEqDiff, Nat.le_refl, and_self, if_true, if_false, List.drop_zero, List.drop_succ_cons, List.take_zero, List.take_succ_cons, List.take_nil, List.drop_nil, true_and, and_true, decide_true, decide_false, Nat.reduceMul, Nat.zero_mul, Nat.one_mul, Nat.mul_one, b2, b3, b4, gp, gn]
    refine rhas_ok hrow (by omega) ?_
    simp only [RS, List.cons_append, List.nil_append, Option.isNone_some, Option.isNone_none, Option.isSome_some, Option.isSome_none, Nat.zero_add, Nat.add_zero, Nat.reduceAdd, List.getElem?_cons_zero, List.getElem?_cons_succ, List.length_cons, List.length_nil, List.all_cons, List.all_nil, Bool.and_self, Bool.and_true, Bool.true_and, Option.bind_some, Nat.reduceLeDiff, Nat.reduceEqDiff, Nat.le_refl, and_self, if_true, if_false, List.drop_zero, List.drop_succ_cons, List.take_zero, List.take_succ_cons, List.take_nil, List.drop_nil, true_and, and_true, decide_true, decide_false, Nat.reduceMul, Nat.zero_mul, Nat.one_mul, Nat.mul_one]
    cases hb : decide (n.thread ∈ s.q n.addr) with
    | false =>
      have hmay : mayB 5 s n = false := hb
      rw [hmay] at hK
      simp only [RS, List.cons_append, List.nil_append, Option.isNone_some, Option.isNone_none, Option.isSome_some, Option.isSome_none, Nat.zero_add, Nat.add_zero, Nat.reduceAdd, List.getElem?_cons_zero, List.getElem?_cons_succ, List.length_cons, List.length_nil, List.all_cons, List.all_nil, Bool.and_self, Bool.and_true, Bool.true_and, Option.bind_some, Nat.reduceLeDiff, Nat.reduceEqDiff, Nat.le_refl, and_self, if_true, if_false, List.drop_zero, List.drop_succ_cons, List.take_zero, List.take_succ_cons, List.take_nil, List.drop_nil, true_and, and_true, decide_true, decide_false, Nat.reduceMul, Nat.zero_mul, Nat.one_mul, Nat.mul_one, Bool.not_false]
      exact hK _ L' (rnote_drop (n := n) h2)
    | true =>
      have hmay : mayB 5 s n = true := hb
      rw [hmay] at hK
      simp only [RS, List.cons_append, List.nil_append, Option.isNone_some, Option.isNone_none, Option.isSome_some, Option.isSome_none, Nat.zero_add, Nat.add_zero, Nat.reduceAdd, List.getElem?_cons_zero, List.getElem?_cons_succ, List.length_cons, List.length_nil, List.all_cons, List.all_nil, Bool.and_self, Bool.and_true, Bool.true_and, Option.bind_some, Nat.reduceLeDiff, Nat.reduceEqDiff, Nat.le_refl, and_self, if_true, if_false, List.drop_zero, List.drop_succ_cons, List.take_zero, List.take_succ_cons, List.take_nil, List.drop_nil, true_and, and_true, decide_true, decide_false, Nat.reduceMul, Nat.zero_mul, Nat.one_mul, Nat.mul_one, Bool.not_true, gp, gn]
      refine without_ok h4q (by omega) fun w H2 h6 => ?_
      have h7 := sat_of_eq (B := sliceA true w (wo n.thread (s.q n.addr)) * (pts m (.cells ((prOf s n.addr).row n.addr vq vr) Ty.laybyref37_place .fix) * (sliceA true vq (prOf s n.addr).q * (sliceA true vr (prOf s n.addr).rd * (RefX r s L' n.addr * (pts H.nx (.cells n.rrow Ty.laybyref11_Note .fix) * F)))))) h6 (by show _ * (sliceA true vq (prOf s n.addr).q * _) = _; ac_rfl)
      obtain ⟨H3, e3, h8⟩ := q_store hm h7
      have g7 := (sat_get (sat_sub h7)).1
      simp only [RS, List.cons_append, List.nil_append, Option.isNone_some, Option.isNone_none, Option.isSome_some, Option.isSome_none, Nat.zero_add, Nat.add_zero, Nat.reduceAdd, List.getElem?_cons_zero, List.getElem?_cons_succ, List.length_cons, List.length_nil, List.all_cons, List.all_nil, Bool.and_self, Bool.and_true, Bool.true_and, Option.bind_some, Nat.reduceLeDiff, Nat.reduceEqDiff, Nat.le_refl, and_self, if_true, if_false, List.drop_zero, List.drop_succ_cons, List.take_zero, List.take_succ_cons, List.take_nil, List.drop_nil, true_and, and_true, decide_true, decide_false, Nat.reduceMul, Nat.zero_mul, Nat.one_mul, Nat.mul_one, g7, e3]
      exact hK _ L' (rnote_drop (n := n) h8)
end
end Go.Proofs.YtiolnpeniklhiaaGreatDoor
