/- The abstract system: the table of all deeds; a note seen.
   Conditions: what stands in memory, as each states it. -/
import Derived.Test.YtiolnpeniklhiaaGreatDoorSpec8
namespace Go.Proofs.YtiolnpeniklhiaaGreatDoor
open Go Go.Ab
set_option linter.all false
set_option maxRecDepth 100000

/-- One table over another one. -/
def ovr (D E : Int → Option DD) : Int → Option DD := fun a => (E a).or (D a)
def tabs (l : List (Nat × (Int → Option DD))) (D : Int → Option DD) : Int → Option DD := l.foldl (fun D x => ovr D x.2) D
def rngD (D : Int → Option DD) : Prop := ∀ a, (D a).isSome = true → 0 ≤ a ∧ a < 64
section
variable {H : AH} {F : SL} {K : KV}
theorem keys_few {kk : IntKind} {l : IL} {es : List MapEntry} {clk : Nat} {D : Int → Option DD} (m1 : MapRep kk l es clk) (m2 : domA D l) (hr : rngD D) : l.length ≤ 64 := by
  have := few 64 (l.map (·.1)) m1.nd fun t ht => by
    obtain ⟨q, hq, rfl⟩ := List.mem_map.1 ht
    refine hr q.1 ?_
    rw [← m2 q.1]
    obtain ⟨j, hj⟩ := List.mem_iff_getElem?.1 hq
    rw [(look_some m1.nd (v := q.2.1)).2 ⟨j, q.2.2, hj⟩]
    rfl
  simpa using this
/-- What is left of a table that is ranged over. -/
def leftA (D : Int → Option DD) (l : IL) : SL := bigS (entA D dF) (kv l)
theorem leftA_split {D : Int → Option DD} {s1 s2 : IL} {q : Int × Value × Nat} : leftA D (s1 ++ q :: s2) = entA D dF (q.1, q.2.1) * leftA D (s1 ++ s2) := by
  unfold leftA kv
  rw [List.map_append, List.map_cons, List.map_append, bigS_append, bigS_cons, bigS_append]
  exact sep_left_comm _ _ _
theorem deeds_ok (hs : sat H F) (hK : ∀ m H', sat H' (mapA .u8 m (ovr (ovr (ovr (ovr qT mT) lT) wT) nT) dF * F) → K (.map (some m)) H') : DS Tryz.prog Fi.specs_deeds [] H K := by
  refine use_specs_deeds 70 ?_
  unfold sh_specs_deeds
  simp only [RS, List.cons_append, List.nil_append, Option.isNone_some, Option.isNone_none, Option.isSome_some, Option.isSome_none, Nat.zero_add, Nat.add_zero, Nat.reduceAdd, List.getElem?_cons_zero, List.getElem?_cons_succ, List.length_cons, List.length_nil, List.all_cons, List.all_nil, Bool.and_self, Bool.and_true, Bool.true_and, Option.bind_some, Nat.reduceLeDiff, Nat.reduceEqDiff, Nat.le_refl, and_self, if_true, if_false, List.drop_zero, List.drop_succ_cons, List.take_zero, List.take_succ_cons, List.take_nil, List.drop_nil, true_and, and_true, decide_true, decide_false, Nat.reduceMul, Nat.zero_mul, Nat.one_mul, Nat.mul_one]
  refine queueDeeds_ok hs fun m0 H0 h0 => ?_
  refine mutexDeeds_ok h0 fun m1 H1 h1 => ?_
  refine lockDeeds_ok h1 fun m2 H2 h2 => ?_
  refine waitDeeds_ok h2 fun m3 H3 h3 => ?_
  refine onceDeeds_ok h3 fun m4 H4 h4 => ?_
  generalize hMl : ([(m1, mT), (m2, lT), (m3, wT), (m4, nT)] : List (Nat × (Int → Option DD))) = Ml
  have hlen : Ml.length = 4 := by rw [← hMl]; rfl
  have hrng : ∀ x ∈ Ml, rngD x.2 := by
    have e : ∀ (D : Int → Option DD) (k : Int) (d : DD), rngD D → 0 ≤ k ∧ k < 64 → rngD (upd D k (some d)) := by
      intro D k d h hk a ha
      by_cases hak : a = k
      · subst hak; exact hk
      · rw [upd_ne _ _ hak] at ha; exact h a ha
    have e0 : rngD (fun _ => none) := fun a ha => by cases ha
    intro x hx
    rw [← hMl] at hx
    simp only [List.mem_cons, List.not_mem_nil, or_false] at hx
    rcases hx with rfl | rfl | rfl | rfl
    · unfold mT; repeat (refine e _ _ _ ?_ (by omega))
      exact e0
    · unfold lT; repeat (refine e _ _ _ ?_ (by omega))
      exact e0
    · unfold wT; repeat (refine e _ _ _ ?_ (by omega))
      exact e0
    · unfold nT; repeat (refine e _ _ _ ?_ (by omega))
      exact e0
  have hall : tabs Ml qT = ovr (ovr (ovr (ovr qT mT) lT) wT) nT := by rw [← hMl]; rfl
  rw [← hall] at hK
  have hcs : ([.map (some m1), .map (some m2), .map (some m3), .map (some m4)] : List Value) = Ml.map fun x => .map (some x.1) := by rw [← hMl]; rfl
  have h5 : sat H4 (mapA .u8 m0 qT dF * (bigS (fun x : Nat × (Int → Option DD) => mapA .u8 x.1 x.2 dF) Ml * F)) := by
    rw [← hMl]
    simp only [bigS_cons, bigS_nil, sep_emp]
    exact sat_of_eq h4 (by ac_rfl)
  simp only [RS, List.cons_append, List.nil_append, Option.isNone_some, Option.isNone_none, Option.isSome_some, Option.isSome_none, Nat.zero_add, Nat.add_zero, Nat.reduceAdd, List.getElem?_cons_zero, List.getElem?_cons_succ, List.length_cons, List.length_nil, List.all_cons, List.all_nil, Bool.and_self, Bool.and_true, Bool.true_and, Option.bind_some, Nat.reduceLeDiff, Nat.reduceEqDiff, Nat.le_refl, and_self, if_true, if_false, List.drop_zero, List.drop_succ_cons, List.take_zero, List.take_succ_cons, List.take_nil, List.drop_nil, true_and, and_true, decide_true, decide_false, Nat.reduceMul, Nat.zero_mul, Nat.one_mul, Nat.mul_one]
  rw [hcs]
  clear hcs hMl h0 h1 h2 h3 h4 hall
  refine lp_rule (fun n s H1 => ∃ i : Nat, i ≤ 4 ∧ 4 < n + i ∧ s = (.map (some m0), .slice (some ⟨H4.nx, 0, none⟩) 4 4, .int .i64 ((4 : Nat) : Int), .int .i64 (i : Int), ()) ∧ ∃ T,
    sat H1 (pts H4.nx (.cells (Ml.map fun x => .map (some x.1)) T .fix) * (mapA .u8 m0 (tabs (Ml.take i) qT) dF * (bigS (fun x : Nat × (Int → Option DD) => mapA .u8 x.1 x.2 dF) (Ml.drop i) * F)))) ?_ ?_
    ⟨0, by omega, by omega, rfl, _, sat_new _ h5⟩
  · rintro n s H5 ⟨i, hi, hn, rfl, T, h⟩ R hR
    by_cases hil : i < 4
    · have hd : decide ((i : Int) < ((4 : Nat) : Int)) = true := decide_eq_true (by omega)
      obtain ⟨x, hx⟩ : ∃ x, Ml[i]? = some x := ⟨_, List.getElem?_eq_getElem (by omega)⟩
      have gc := (sat_get h).1
      have hcell : (Ml.map fun x => (.map (some x.1) : Value))[i]? = some (.map (some x.1)) := by rw [List.getElem?_map, hx]; rfl
      have hxm := List.mem_of_getElem? hx
      have hdrop : Ml.drop i = x :: Ml.drop (i + 1) := by
        obtain ⟨hl, rfl⟩ := List.getElem?_eq_some_iff.1 hx
        exact List.drop_eq_getElem_cons hl
      have htake : tabs (Ml.take (i + 1)) qT = ovr (tabs (Ml.take i) qT) x.2 := by
        obtain ⟨hl, rfl⟩ := List.getElem?_eq_some_iff.1 hx
        rw [List.take_succ_eq_append_getElem hl]
        unfold tabs
        rw [List.foldl_append]
        rfl
      rw [hdrop, bigS_cons] at h
      have h7 : sat H5 (mapA .u8 x.1 x.2 dF * (mapA .u8 m0 (tabs (Ml.take i) qT) dF * (pts H4.nx (.cells (Ml.map fun x => .map (some x.1)) T .fix) * (bigS (fun x : Nat × (Int → Option DD) => mapA .u8 x.1 x.2 dF) (Ml.drop (i + 1)) * F)))) := sat_of_eq h (by ac_rfl)
      obtain ⟨l, es, clk, r1, r2, r3⟩ := sat_mapA.1 h7
      have gm := (sat_get r3).1
      have hll := keys_few r1 r2 (hrng x hxm)
      simp only [RS, List.cons_append, List.nil_append, Option.isNone_some, Option.isNone_none, Option.isSome_some, Option.isSome_none, Nat.zero_add, Nat.add_zero, Nat.reduceAdd, List.getElem?_cons_zero, List.getElem?_cons_succ, List.length_cons, List.length_nil, List.all_cons, List.all_nil, Bool.and_self, Bool.and_true, Bool.true_and, Option.bind_some, Nat.reduceLeDiff, Nat.reduceEqDiff, Nat.le_refl, and_self, if_true, if_false, List.drop_zero, List.drop_succ_cons, List.take_zero, List.take_succ_cons, List.take_nil, List.drop_nil, true_and, and_true, decide_true, decide_false, Nat.reduceMul, Nat.zero_mul, Nat.one_mul, Nat.mul_one, hd, ixS_of 1 H4.nx 0 4 4 none .i64 i hil, gc, hcell]
      refine rngM_some gm ?_
      generalize htb : tabs (Ml.take i) qT = D0 at *
      refine lp_rule (fun n' s' H6 => ∃ (l1 l2 : IL) (D' : Int → Option DD), (l1 ++ l2).Perm l ∧ l2.length < n' ∧ (∀ a, D' a = if a ∈ l1.map (·.1) then x.2 a else D0 a) ∧
        s' = (.map (some m0), .slice (some ⟨H4.nx, 0, none⟩) 4 4, .int .i64 ((4 : Nat) : Int), .int .i64 (i : Int), .pointer (some ⟨H5.nx, 0, none⟩), ()) ∧
        sat H6 (pts H5.nx (.iter (some x.1) clk clk (l1.map (·.2.2))) * (pts x.1 (.map es clk) * (leftA x.2 l2 * (mapA .u8 m0 D' dF * (pts H4.nx (.cells (Ml.map fun x => .map (some x.1)) T .fix) * (bigS (fun x : Nat × (Int → Option DD) => mapA .u8 x.1 x.2 dF) (Ml.drop (i + 1)) * F))))))) ?_ ?_
        ⟨[], l, D0, .refl _, by omega, fun a => by simp, rfl, sat_new _ r3⟩
      · rintro n' s' H6 ⟨l1, l2, D', hp, hn', hD, rfl, h8⟩ R' hR'
        simp only [bn_some]
        refine nxt_rule r1 hp (sat_get h8).1 (sat_get (sat_sub h8)).1 (fun e => ?_) fun q s1 s2 e => ?_
        · subst e
          have hw : IntKind.i64.wrap ((i : Int) + 1) = ((i + 1 : Nat) : Int) := w64s (by omega)
          simp only [RS, List.cons_append, List.nil_append, Option.isNone_some, Option.isNone_none, Option.isSome_some, Option.isSome_none, Nat.zero_add, Nat.add_zero, Nat.reduceAdd, List.getElem?_cons_zero, List.getElem?_cons_succ, List.length_cons, List.length_nil, List.all_cons, List.all_nil, Bool.and_self, Bool.and_true, Bool.true_and, Option.bind_some, Nat.reduceLeDiff, Nat.reduceEqDiff, Nat.le_refl, and_self, if_true, if_false, List.drop_zero, List.drop_succ_cons, List.take_zero, List.take_succ_cons, List.take_nil, List.drop_nil, true_and, and_true, decide_true, decide_false, Nat.reduceMul, Nat.zero_mul, Nat.one_mul, Nat.mul_one, hw]
          refine hR _ _ ⟨i + 1, by omega, by omega, rfl, T, ?_⟩
          rw [htake]
          have hDe : D' = ovr D0 x.2 := by
            funext a
            rw [hD]
            have hdom := r2 a
            by_cases ha : a ∈ l1.map (·.1)
            · rw [if_pos ha]
              obtain ⟨q, hq, rfl⟩ := List.mem_map.1 ha
              have hql : q ∈ l := hp.mem_iff.1 (by simpa using hq)
              obtain ⟨j, hj⟩ := List.mem_iff_getElem?.1 hql
              rw [(look_some r1.nd (v := q.2.1)).2 ⟨j, q.2.2, hj⟩] at hdom
              unfold ovr
              cases hx2 : x.2 q.1 with
              | none => rw [hx2] at hdom; cases hdom
              | some d => rfl
            · rw [if_neg ha]
              unfold ovr
              cases hx2 : x.2 a with
              | none => rfl
              | some d =>
                rw [hx2] at hdom
                obtain ⟨v, hv⟩ := Option.isSome_iff_exists.1 hdom
                obtain ⟨j, b, hj⟩ := (look_some r1.nd).1 hv
                have : (a, v, b) ∈ l1 := by
                  have := hp.mem_iff.2 (List.mem_of_getElem? hj)
                  simpa using this
                exact absurd (List.mem_map.2 ⟨_, this, rfl⟩) ha
          rw [← hDe]
          refine sat_sub (A := pts H5.nx (.iter (some x.1) clk clk (l1.map (·.2.2))) * (pts x.1 (.map es clk) * leftA x.2 [])) (sat_of_eq h8 (by ac_rfl))
        · subst e
          have h9 := sat_put (.iter (some x.1) clk clk ((l1 ++ [q]).map (·.2.2))) h8
          have hql : q ∈ l := hp.mem_iff.1 (by simp)
          rw [leftA_split] at h9
          have h10 := sat_of_eq (B := entA x.2 dF (q.1, q.2.1) * (mapA .u8 m0 D' dF * (pts H5.nx (.iter (some x.1) clk clk ((l1 ++ [q]).map (·.2.2))) * (pts x.1 (.map es clk) * (leftA x.2 (s1 ++ s2) * (pts H4.nx (.cells (Ml.map fun x => .map (some x.1)) T .fix) * (bigS (fun x : Nat × (Int → Option DD) => mapA .u8 x.1 x.2 dF) (Ml.drop (i + 1)) * F))))))) h9 (by ac_rfl)
          obtain ⟨d, hd2, h11⟩ := sat_entA.1 h10
          obtain ⟨H7, e7, h12⟩ := tab_set (k := q.1) (d := d) h11
          simp only [RS, List.cons_append, List.nil_append, Option.isNone_some, Option.isNone_none, Option.isSome_some, Option.isSome_none, Nat.zero_add, Nat.add_zero, Nat.reduceAdd, List.getElem?_cons_zero, List.getElem?_cons_succ, List.length_cons, List.length_nil, List.all_cons, List.all_nil, Bool.and_self, Bool.and_true, Bool.true_and, Option.bind_some, Nat.reduceLeDiff, Nat.reduceEqDiff, Nat.le_refl, and_self, if_true, if_false, List.drop_zero, List.drop_succ_cons, List.take_zero, List.take_succ_cons, List.take_nil, List.drop_nil, true_and, and_true, decide_true, decide_false, Nat.reduceMul, Nat.zero_mul, Nat.one_mul, Nat.mul_one, ent_rule r1 hql (sat_get h9).1 (sat_get (sat_sub h9)).1, e7]
          refine hR' _ _ ⟨l1 ++ [q], s1 ++ s2, upd D' q.1 (some d), ?_, ?_, fun a => ?_, rfl, sat_of_eq h12 (by ac_rfl)⟩
          · refine List.Perm.trans ?_ hp
            rw [List.append_assoc]
            exact List.Perm.append_left _ (List.perm_middle.symm : (q :: (s1 ++ s2)).Perm (s1 ++ q :: s2))
          · rw [List.length_append, List.length_cons] at hn'
            rw [List.length_append]; omega
          · by_cases ha : a = q.1
            · subst ha
              rw [upd_self, if_pos (by simp)]
              exact hd2.symm
            · rw [upd_ne _ _ ha, hD]
              have : a ∈ (l1 ++ [q]).map (·.1) ↔ a ∈ l1.map (·.1) := by
                rw [List.map_append, List.mem_append]
                exact ⟨fun h => h.elim id fun h => absurd (by simpa using h) ha, .inl⟩
              by_cases hm : a ∈ l1.map (·.1)
              · rw [if_pos hm, if_pos (this.2 hm)]
              · rw [if_neg hm, if_neg fun h => hm (this.1 h)]
      · rintro s' H6 ⟨l1, l2, D', -, h', -⟩; omega
    · have hie : i = 4 := by omega
      subst hie
      have hd : decide (((4 : Nat) : Int) < ((4 : Nat) : Int)) = false := by simp
      simp only [RS, List.cons_append, List.nil_append, Option.isNone_some, Option.isNone_none, Option.isSome_some, Option.isSome_none, Nat.zero_add, Nat.add_zero, Nat.reduceAdd, List.getElem?_cons_zero, List.getElem?_cons_succ, List.length_cons, List.length_nil, List.all_cons, List.all_nil, Bool.and_self, Bool.and_true, Bool.true_and, Option.bind_some, Nat.reduceLeDiff, Nat.reduceEqDiff, Nat.le_refl, and_self, if_true, if_false, List.drop_zero, List.drop_succ_cons, List.take_zero, List.take_succ_cons, List.take_nil, List.drop_nil, true_and, and_true, decide_true, decide_false, Nat.reduceMul, Nat.zero_mul, Nat.one_mul, Nat.mul_one, hd]
      rw [List.take_of_length_le (by omega)] at h
      refine hK m0 H5 (sat_sub (A := pts H4.nx (.cells (Ml.map fun x => .map (some x.1)) T .fix) * bigS (fun x : Nat × (Int → Option DD) => mapA .u8 x.1 x.2 dF) (Ml.drop 4)) (sat_of_eq h (by ac_rfl)))
  · rintro s H5 ⟨i, h1, h2, -⟩; omega
end
end Go.Proofs.YtiolnpeniklhiaaGreatDoor
