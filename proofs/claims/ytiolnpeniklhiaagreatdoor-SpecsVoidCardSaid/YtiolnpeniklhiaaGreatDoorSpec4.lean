/- The abstract system's state: is a thread queued anywhere; locks and onces, at their addresses.
   Conditions: what stands in memory, as each states it. -/
import Derived.Test.YtiolnpeniklhiaaGreatDoorSpec3
namespace Go.Proofs.YtiolnpeniklhiaaGreatDoor
open Go Go.Ab
set_option linter.all false
set_option maxRecDepth 100000
section
variable {H : AH} {p : Nat} {s : SS} {F : SL} {d : DX} {a t : Int} {K : KV}
open Classical in
theorem anywhere_ok (ho : s.ok) (hs : sat H (StR p s * F)) (hK : ∀ H', sat H' (StR p s * F) → K (.bool (decide (∃ a, t ∈ s.q a))) H') : DS Tryz.prog Fi.specs_State_anywhere [ptr p, .int .i64 t] H K := by
  obtain ⟨d, hd, h⟩ := sat_StR.1 hs
  obtain ⟨l, es, clk, m1, m2, m3⟩ := sat_mapA.1 (maps_q h)
  refine use_specs_State_anywhere (l.length + 2) ?_
  unfold sh_specs_State_anywhere
  have g := (sat_get h).1
  have gm := (sat_get m3).1
  simp only [RS, List.cons_append, List.nil_append, Option.isNone_some, Option.isNone_none, Option.isSome_some, Option.isSome_none, Nat.zero_add, Nat.add_zero, Nat.reduceAdd, List.getElem?_cons_zero, List.getElem?_cons_succ, List.length_cons, List.length_nil, List.all_cons, List.all_nil, Bool.and_self, Bool.and_true, Bool.true_and, Option.bind_some, Nat.reduceLeDiff, Nat.reduceEqDiff, Nat.le_refl, and_self, if_true, if_false, List.drop_zero, List.drop_succ_cons, List.take_zero, List.take_succ_cons, List.take_nil, List.drop_nil, true_and, and_true, decide_true, decide_false, Nat.reduceMul, Nat.zero_mul, Nat.one_mul, Nat.mul_one, g, DX.hd, hdS]
  refine rngM_some gm ?_
  have back : ∀ {H' : AH} {G : SL}, sat H' (G * (pts d.mq (.map es clk) * (bigS (entA d.Dq qF) (kv l) * (pts p (d.hd s) * (mapA .u32 d.mo d.Do owF * (mapA .u32 d.ml d.Dl lkF * (mapA .u32 d.mn d.Dn onF * (mapA .i64 d.mw d.Dw waF * F)))))))) → sat H' (StR p s * (G * F)) := by
    intro H' G h'
    refine sat_StR.2 ⟨d, hd, ?_⟩
    have h2 := sat_mapA.2 ⟨l, es, clk, m1, m2, sat_of_eq (B := pts d.mq (.map es clk) * (bigS (entA d.Dq qF) (kv l) * (G * (pts p (d.hd s) * (mapA .u32 d.mo d.Do owF * (mapA .u32 d.ml d.Dl lkF * (mapA .u32 d.mn d.Dn onF * (mapA .i64 d.mw d.Dw waF * F)))))))) h' (by ac_rfl)⟩
    exact sat_of_eq h2 (by unfold DX.maps; ac_rfl)
  refine lp_rule (fun n t' H1 => ∃ l1 l2 : IL, (l1 ++ l2).Perm l ∧ l2.length < n ∧ (∀ q ∈ l1, t ∉ s.q q.1) ∧ t' = (ptr p, .int .i64 t, .pointer (some ⟨H.nx, 0, none⟩), ()) ∧
    sat H1 (pts H.nx (.iter (some d.mq) clk clk (l1.map (·.2.2))) * (pts d.mq (.map es clk) * (bigS (entA d.Dq qF) (kv l) * (pts p (d.hd s) * (mapA .u32 d.mo d.Do owF * (mapA .u32 d.ml d.Dl lkF * (mapA .u32 d.mn d.Dn onF * (mapA .i64 d.mw d.Dw waF * F))))))))) ?_ ?_
    ⟨[], l, .refl _, by omega, by simp, rfl, sat_new _ m3⟩
  · rintro n t' H1 ⟨l1, l2, hp, hn, hno, rfl, h1⟩ R hR
    simp only [bn_some]
    refine nxt_rule m1 hp (sat_get h1).1 (sat_get (sat_sub h1)).1 (fun e => ?_) fun q s1 s2 e => ?_
    · subst e
      simp only [RS, List.cons_append, List.nil_append, Option.isNone_some, Option.isNone_none, Option.isSome_some, Option.isSome_none, Nat.zero_add, Nat.add_zero, Nat.reduceAdd, List.getElem?_cons_zero, List.getElem?_cons_succ, List.length_cons, List.length_nil, List.all_cons, List.all_nil, Bool.and_self, Bool.and_true, Bool.true_and, Option.bind_some, Nat.reduceLeDiff, Nat.reduceEqDiff, Nat.le_refl, and_self, if_true, if_false, List.drop_zero, List.drop_succ_cons, List.take_zero, List.take_succ_cons, List.take_nil, List.drop_nil, true_and, and_true, decide_true, decide_false, Nat.reduceMul, Nat.zero_mul, Nat.one_mul, Nat.mul_one]
      have : decide (∃ a, t ∈ s.q a) = false := by
        rw [decide_eq_false_iff_not]
        rintro ⟨a, ha⟩
        have hdom := m2 a
        have hq := hd.q a
        cases hx : d.Dq a with
        | none => rw [hq, hx] at ha; simp at ha
        | some xs =>
          rw [hx] at hdom
          obtain ⟨v, hv⟩ := Option.isSome_iff_exists.1 hdom
          obtain ⟨j, b, hj⟩ := (look_some m1.nd).1 hv
          have hm : (a, v, b) ∈ l1 := by
            have := hp.mem_iff.2 (List.mem_of_getElem? hj)
            simpa using this
          exact hno _ hm ha
      have h2 := hK H1 (sat_of_eq (sat_sub (A := pts H.nx (.iter (some d.mq) clk clk (l1.map (·.2.2)))) (sat_of_eq (back h1) (by ac_rfl : _ = pts H.nx (.iter (some d.mq) clk clk (l1.map (·.2.2))) * (StR p s * F)))) rfl)
      rw [this] at h2
      exact h2
    · have h2 := sat_put (.iter (some d.mq) clk clk ((l1 ++ [q]).map (·.2.2))) h1
      have hql : q ∈ l := hp.mem_iff.1 (by rw [e]; simp)
      simp only [RS, List.cons_append, List.nil_append, Option.isNone_some, Option.isNone_none, Option.isSome_some, Option.isSome_none, Nat.zero_add, Nat.add_zero, Nat.reduceAdd, List.getElem?_cons_zero, List.getElem?_cons_succ, List.length_cons, List.length_nil, List.all_cons, List.all_nil, Bool.and_self, Bool.and_true, Bool.true_and, Option.bind_some, Nat.reduceLeDiff, Nat.reduceEqDiff, Nat.le_refl, and_self, if_true, if_false, List.drop_zero, List.drop_succ_cons, List.take_zero, List.take_succ_cons, List.take_nil, List.drop_nil, true_and, and_true, decide_true, decide_false, Nat.reduceMul, Nat.zero_mul, Nat.one_mul, Nat.mul_one, ent_rule m1 hql (sat_get h2).1 (sat_get (sat_sub h2)).1]
      refine queued_ok (F := pts H.nx (.iter (some d.mq) clk clk ((l1 ++ [q]).map (·.2.2))) * F) ho (back h2) ?_
      by_cases ht : t ∈ s.q q.1
      · have hb : decide (t ∈ s.q q.1) = true := by simpa using ht
        have hb2 : decide (∃ a, t ∈ s.q a) = true := by rw [decide_eq_true_iff]; exact ⟨_, ht⟩
        rw [hb]
        simp only [RS, List.cons_append, List.nil_append, Option.isNone_some, Option.isNone_none, Option.isSome_some, Option.isSome_none, Nat.zero_add, Nat.add_zero, Nat.reduceAdd, List.getElem?_cons_zero, List.getElem?_cons_succ, List.length_cons, List.length_nil, List.all_cons, List.all_nil, Bool.and_self, Bool.and_true, Bool.true_and, Option.bind_some, Nat.reduceLeDiff, Nat.reduceEqDiff, Nat.le_refl, and_self, if_true, if_false, List.drop_zero, List.drop_succ_cons, List.take_zero, List.take_succ_cons, List.take_nil, List.drop_nil, true_and, and_true, decide_true, decide_false, Nat.reduceMul, Nat.zero_mul, Nat.one_mul, Nat.mul_one]
        have h3 := hK _ (sat_sub (A := pts H.nx (.iter (some d.mq) clk clk ((l1 ++ [q]).map (·.2.2)))) (sat_of_eq (back h2) (by ac_rfl)))
        rw [hb2] at h3
        exact h3
      · have hb : decide (t ∈ s.q q.1) = false := by simpa using ht
        rw [hb]
        simp only [RS, List.cons_append, List.nil_append, Option.isNone_some, Option.isNone_none, Option.isSome_some, Option.isSome_none, Nat.zero_add, Nat.add_zero, Nat.reduceAdd, List.getElem?_cons_zero, List.getElem?_cons_succ, List.length_cons, List.length_nil, List.all_cons, List.all_nil, Bool.and_self, Bool.and_true, Bool.true_and, Option.bind_some, Nat.reduceLeDiff, Nat.reduceEqDiff, Nat.le_refl, and_self, if_true, if_false, List.drop_zero, List.drop_succ_cons, List.take_zero, List.take_succ_cons, List.take_nil, List.drop_nil, true_and, and_true, decide_true, decide_false, Nat.reduceMul, Nat.zero_mul, Nat.one_mul, Nat.mul_one]
        refine hR _ _ ⟨l1 ++ [q], s1 ++ s2, ?_, ?_, ?_, rfl, h2⟩
        · refine List.Perm.trans ?_ hp
          rw [e, List.append_assoc]
          exact List.Perm.append_left _ (List.perm_middle.symm : (q :: (s1 ++ s2)).Perm (s1 ++ q :: s2))
        · have : l2.length = s1.length + (s2.length + 1) := by rw [e]; simp
          simp; omega
        · intro x hx
          rcases List.mem_append.1 hx with h | h
          · exact hno x h
          · simp at h; subst h; exact ht
  · rintro t' H1 ⟨l1, l2, -, h, -⟩; omega

/-! ### locks -/
/-- The state but for the lock at an address. -/
def StL (p : Nat) (s : SS) (a : Int) (v : Value) : SL := ex fun d : DX => lift (d.rel s) * (pts p (d.hd s) * (mapX .u32 d.ml d.Dl lkF a v * (mapA .u32 d.mq d.Dq qF * (mapA .u32 d.mo d.Do owF * (mapA .u32 d.mn d.Dn onF * mapA .i64 d.mw d.Dw waF)))))
theorem sat_StL {v : Value} : sat H (StL p s a v * F) ↔ ∃ d : DX, d.rel s ∧ sat H (pts p (d.hd s) * (mapX .u32 d.ml d.Dl lkF a v * (mapA .u32 d.mq d.Dq qF * (mapA .u32 d.mo d.Do owF * (mapA .u32 d.mn d.Dn onF * (mapA .i64 d.mw d.Dw waF * F)))))) := by
  unfold StL
  rw [sat_exS]
  constructor
  · rintro ⟨d, h⟩
    rw [sep_assoc, sat_lift] at h
    exact ⟨d, h.1, sat_of_eq h.2 (by ac_rfl)⟩
  · rintro ⟨d, h1, h⟩
    refine ⟨d, ?_⟩
    rw [sep_assoc, sat_lift]
    exact ⟨h1, sat_of_eq h (by ac_rfl)⟩
theorem upd_rel_l (hd : d.rel s) (a : Int) (x : LkS) : ({ d with Dl := upd d.Dl a (some x) } : DX).rel { s with lk := upd s.lk a x } := by
  refine ⟨hd.q, hd.ow, fun b => ?_, hd.on, hd.wa⟩
  by_cases hb : b = a
  · subst hb; simp [upd_self]
  · simp [upd_ne _ _ hb, hd.lk]
theorem lock_close {x : LkS} {v : Value} (h : sat H (lkF a x v * (StL p s a v * F))) : sat H (StR p { s with lk := upd s.lk a x } * F) := by
  obtain ⟨d, hd, h1⟩ := sat_StL.1 (sep_left_comm (lkF a x v) (StL p s a v) F ▸ h)
  have h2 : sat H (lkF a x v * (mapX .u32 d.ml d.Dl lkF a v * (pts p (d.hd s) * (mapA .u32 d.mq d.Dq qF * (mapA .u32 d.mo d.Do owF * (mapA .u32 d.mn d.Dn onF * (mapA .i64 d.mw d.Dw waF * F))))))) := sat_of_eq h1 (by ac_rfl)
  refine sat_StR.2 ⟨{ d with Dl := upd d.Dl a (some x) }, upd_rel_l hd a x, sat_of_eq (map_close h2) ?_⟩
  simp only [DX.maps, DX.hd, hdS]
  ac_rfl
theorem upd_lk_id (s : SS) (a : Int) : ({ s with lk := upd s.lk a (s.lk a) } : SS) = s := by
  have : upd s.lk a (s.lk a) = s.lk := upd_id _ rfl
  rw [this]
theorem lock_close' {v : Value} (h : sat H (lkF a (s.lk a) v * (StL p s a v * F))) : sat H (StR p s * F) := by
  have := lock_close h
  rwa [upd_lk_id] at this
theorem lock_ok (hs : sat H (StR p s * F)) (hK : ∀ v H', sat H' (lkF a (s.lk a) v * (StL p s a v * F)) → K v H') : DS Tryz.prog Fi.specs_State_lock [ptr p, .int .u32 a] H K := by
  refine use_specs_State_lock 0 ?_
  unfold sh_specs_State_lock
  obtain ⟨d, hd, h⟩ := sat_StR.1 hs
  have g := (sat_get h).1
  obtain ⟨o, e, c⟩ := map_look (k := a) (z := .pointer none) (ok := false) (maps_l h)
  simp only [RS, List.cons_append, List.nil_append, Option.isNone_some, Option.isNone_none, Option.isSome_some, Option.isSome_none, Nat.zero_add, Nat.add_zero, Nat.reduceAdd, List.getElem?_cons_zero, List.getElem?_cons_succ, List.length_cons, List.length_nil, List.all_cons, List.all_nil, Bool.and_self, Bool.and_true, Bool.true_and, Option.bind_some, Nat.reduceLeDiff, Nat.reduceEqDiff, Nat.le_refl, and_self, if_true, if_false, List.drop_zero, List.drop_succ_cons, List.take_zero, List.take_succ_cons, List.take_nil, List.drop_nil, true_and, and_true, decide_true, decide_false, Nat.reduceMul, Nat.zero_mul, Nat.one_mul, Nat.mul_one, g, DX.hd, hdS, e, lkV]
  rcases c with ⟨rfl, hn⟩ | ⟨v, x, rfl, hx, h2⟩
  · have h1 := sat_new (.cells [.map (some H.nx), .int .i64 0, .int .i64 0, .bool false] Ty.specs_lock .fix) (sat_new (.map [] 0) h)
    simp only [AH.nx_new] at h1
    have gp := (sat_get (sat_sub (sat_sub h1))).1
    have h3 : sat ((H.new (.map [] 0)).new (.cells [.map (some H.nx), .int .i64 0, .int .i64 0, .bool false] Ty.specs_lock .fix)) (mapA .i64 H.nx (rdD []) rdF * (pts (H.nx + 1) (.cells [.map (some H.nx), .int .i64 0, .int .i64 0, .bool false] Ty.specs_lock .fix) * (pts p (d.hd s) * (d.maps * F)))) := by
      have e0 : (rdD []) = fun _ => (none : Option Unit) := by funext t; simp [rdD]
      rw [e0]
      exact map_empty (sat_of_eq h1 (by ac_rfl))
    have h4 : sat ((H.new (.map [] 0)).new (.cells [.map (some H.nx), .int .i64 0, .int .i64 0, .bool false] Ty.specs_lock .fix)) (mapA .u32 d.ml d.Dl lkF * (lkF a .zero (ptr (H.nx + 1)) * (pts p (d.hd s) * (mapA .u32 d.mq d.Dq qF * (mapA .u32 d.mo d.Do owF * (mapA .u32 d.mn d.Dn onF * (mapA .i64 d.mw d.Dw waF * F))))))) := by
      have h5 : sat ((H.new (.map [] 0)).new (.cells [.map (some H.nx), .int .i64 0, .int .i64 0, .bool false] Ty.specs_lock .fix)) (lkF a .zero (ptr (H.nx + 1)) * (pts p (d.hd s) * (d.maps * F))) := by
        unfold lkF
        rw [sat_exS]
        refine ⟨(H.nx + 1, H.nx), ?_⟩
        rw [sep_assoc, sat_lift]
        exact ⟨rfl, sat_of_eq h3 (by simp only [LkS.zero]; ac_rfl)⟩
      exact sat_of_eq h5 (by unfold DX.maps; ac_rfl)
    obtain ⟨H2, e2, h6⟩ := map_set h4
    simp only [DX.hd, hdS] at gp
    simp only [RS, List.cons_append, List.nil_append, Option.isNone_some, Option.isNone_none, Option.isSome_some, Option.isSome_none, Nat.zero_add, Nat.add_zero, Nat.reduceAdd, List.getElem?_cons_zero, List.getElem?_cons_succ, List.length_cons, List.length_nil, List.all_cons, List.all_nil, Bool.and_self, Bool.and_true, Bool.true_and, Option.bind_some, Nat.reduceLeDiff, Nat.reduceEqDiff, Nat.le_refl, and_self, if_true, if_false, List.drop_zero, List.drop_succ_cons, List.take_zero, List.take_succ_cons, List.take_nil, List.drop_nil, true_and, and_true, decide_true, decide_false, Nat.reduceMul, Nat.zero_mul, Nat.one_mul, Nat.mul_one, gp, e2]
    obtain ⟨w, h7⟩ := map_open (k := a) (x := LkS.zero) h6 (upd_self _ _ _)
    have hw : w = ptr (H.nx + 1) := by
      have hl := map_look_some (sat_sub h7) (.pointer none) false
      have : ∀ {D : Int → Option LkS}, True := fun {_} => trivial
      obtain ⟨l, es, clk, q1, q2, q3⟩ := sat_mapA.1 h4
      obtain ⟨l', es', clk', r1, r2, r3, r4⟩ := q1.mu a (ptr (H.nx + 1))
      rw [(sat_get q3).1, r1] at e2
      simp only [Option.some.injEq, Prod.mk.injEq, true_and] at e2
      subst e2
      rw [AH.get_put, if_pos rfl, r2.lk, r3, if_pos rfl] at hl
      simpa [lkV] using hl.symm
    subst hw
    refine hK _ _ ?_
    have hz : s.lk a = .zero := by rw [hd.lk, hn]; rfl
    rw [hz]
    refine sat_of_eq (sat_StL (s := s) (v := ptr (H.nx + 1)) (F := lkF a .zero (ptr (H.nx + 1)) * F).2 ⟨{ d with Dl := upd d.Dl a (some .zero) }, ?_, sat_of_eq h7 ?_⟩) (by ac_rfl)
    · have h8 := upd_rel_l hd a .zero
      have : ({ s with lk := upd s.lk a .zero } : SS) = s := by rw [← hz]; exact upd_lk_id s a
      rwa [this] at h8
    · simp only [DX.hd, hdS]; ac_rfl
  · have hv : ∃ n, v = ptr n := by
      unfold lkF at h2
      rw [sat_exS] at h2
      obtain ⟨q, h2⟩ := h2
      rw [sep_assoc, sat_lift] at h2
      exact ⟨_, h2.1⟩
    obtain ⟨n, rfl⟩ := hv
    simp only [RS, List.cons_append, List.nil_append, Option.isNone_some, Option.isNone_none, Option.isSome_some, Option.isSome_none, Nat.zero_add, Nat.add_zero, Nat.reduceAdd, List.getElem?_cons_zero, List.getElem?_cons_succ, List.length_cons, List.length_nil, List.all_cons, List.all_nil, Bool.and_self, Bool.and_true, Bool.true_and, Option.bind_some, Nat.reduceLeDiff, Nat.reduceEqDiff, Nat.le_refl, and_self, if_true, if_false, List.drop_zero, List.drop_succ_cons, List.take_zero, List.take_succ_cons, List.take_nil, List.drop_nil, true_and, and_true, decide_true, decide_false, Nat.reduceMul, Nat.zero_mul, Nat.one_mul, Nat.mul_one]
    refine hK _ _ ?_
    have hz : s.lk a = x := by rw [hd.lk, hx]; rfl
    rw [hz]
    exact sat_of_eq (sat_StL (s := s) (v := ptr n) (F := lkF a x (ptr n) * F).2 ⟨d, hd, sat_of_eq h2 (by ac_rfl)⟩) (by ac_rfl)
end
end Go.Proofs.YtiolnpeniklhiaaGreatDoor
