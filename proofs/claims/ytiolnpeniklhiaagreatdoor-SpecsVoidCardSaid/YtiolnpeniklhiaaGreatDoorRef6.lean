/- The document's answer: who waits.
   Conditions: what stands in memory, as each states it. -/
import Derived.Test.YtiolnpeniklhiaaGreatDoorRef5
namespace Go.Proofs.YtiolnpeniklhiaaGreatDoor
open Go Go.Ab
set_option linter.all false
set_option maxRecDepth 100000
section
variable {H : AH} {F : SL} {K : KV} {s : SS} {r : Nat} {L : PL} {n : NV}
theorem wrow2 (ws : WtL) : ∀ x ∈ ws.map (fun p => [(.int .i64 p.1 : Value), .int .u32 p.2]), x.length = 2 := fun x hx => by
  obtain ⟨p, -, rfl⟩ := List.mem_map.1 hx
  rfl
theorem wrow_len (ws : WtL) : (wrow ws).length = ws.length * 2 := by
  unfold wrow
  rw [flat_len (wrow2 ws), List.length_map]
theorem wrow_snoc (ws : WtL) (p : Int × Int) : wrow (ws ++ [p]) = wrow ws ++ [.int .i64 p.1, .int .u32 p.2] := by
  unfold wrow; simp
theorem wt_at {v : Value} {ws : WtL} {T : TypeId} (h : sat H (ownS T 2 v (wrow ws) * F)) {i : Nat} {y : Int × Int} (hy : ws[i]? = some y) : ∃ m, ixS 2 v (.int .i64 (i : Int)) = some (.pointer (some ⟨m, i * 2, none⟩)) ∧
    cellO (i * 2) (H.get m) = some (.int .i64 y.1) ∧ cellO (i * 2 + 1) (H.get m) = some (.int .u32 y.2) ∧ cellsO 2 (i * 2) (H.get m) = some (.agg ⟨[.int .i64 y.1, .int .u32 y.2]⟩) := by
  have hil := (List.getElem?_eq_some_iff.1 hy).1
  have hm : (ws.map fun p => [(.int .i64 p.1 : Value), .int .u32 p.2])[i]? = some [.int .i64 y.1, .int .u32 y.2] := by rw [List.getElem?_map, hy]; rfl
  rcases sat_own.1 h with ⟨-, e, -⟩ | ⟨m, len, rfl, h2, h3⟩
  · have := congrArg List.length e
    rw [wrow_len] at this
    have h0 : ([] : List Value).length = 0 := rfl
    exfalso; omega
  · have hlen : len = ws.length := by rw [wrow_len] at h2; omega
    subst hlen
    have g := (sat_get h3).1
    refine ⟨m, by rw [ixS_of 2 m 0 _ _ none .i64 i hil, Nat.zero_add], ?_, ?_, ?_⟩
    · rw [g, cellO_cells]
      have := flat_get (s := 2) (wrow2 ws) (i := i) (j := 0) (by omega)
      unfold wrow
      rw [Nat.add_zero] at this
      rw [this, hm]; rfl
    · rw [g, cellO_cells]
      unfold wrow
      rw [flat_get (wrow2 ws) (by omega), hm]; rfl
    · rw [g, cellsO_cells _ _ _ _ _ (by rw [wrow_len]; omega)]
      unfold wrow
      rw [flat_cut (wrow2 ws) hm]
theorem few_ws {L : PL} {ws : WtL} (h : RRel s L ws) : ws.length ≤ 64 := by
  have := few 64 (ws.map (·.1)) h.wnd fun t ht => by
    obtain ⟨p, hp, rfl⟩ := List.mem_map.1 ht
    have := h.wrg p hp; omega
  simpa using this
theorem wa_none {L : PL} {ws : WtL} (h : RRel s L ws) {t : Int} (hno : ∀ y ∈ ws, y.1 ≠ t) : s.wa t = none := by
  cases e : s.wa t with
  | none => rfl
  | some a => exact absurd rfl (hno _ ((h.wa t a).1 e))
theorem rwaiting_ok {k : Nat} (ho : s.ok) (hn : n.ok) (ha : 0 ≤ n.addr ∧ n.addr < 4294967296) (hk : n.kind = k) (hks : k = 29 ∨ k = 30 ∨ k = 31 ∨ k = 32) (hs : sat H (RefL r s L * F))
    (hK : ∀ H' L', sat H' (RefL r (deedS k s n) L' * F) → K (.int .i64 (fltS k s n)) H') : DS Tryz.prog Fi.laybyref37_State_waiting [ptr r, n.rval] H K := by
  refine use_laybyref37_State_waiting 80 ?_
  unfold sh_laybyref37_State_waiting
  obtain ⟨h1, g1⟩ := rnote_new (n := n) hs
  have hth := hn.th
  by_cases hk32 : k = 32
  · subst hk32
    have b32 : ((((32 : Nat) : Int)) == 32) = true := rfl
    simp only [RS, List.cons_append, List.nil_append, Option.isNone_some, Option.isNone_none, Option.isSome_some, Option.isSome_none, Nat.zero_add, Nat.add_zero, Nat.reduceAdd, List.getElem?_cons_zero, List.getElem?_cons_succ, List.length_cons, List.length_nil, List.all_cons, List.all_nil, Bool.and_self, Bool.and_true, Bool.true_and, Option.bind_some, Nat.reduceLeDiff, Nat.reduceEqDiff, Nat.le_refl, and_self, if_true, if_false, List.drop_zero, List.drop_succ_cons, List.take_zero, List.take_succ_cons, List.take_nil, List.drop_nil, true_and, and_true, decide_true, decide_false, Nat.reduceMul, Nat.zero_mul, Nat.one_mul, Nat.mul_one, g1, hk, b32]
    refine at_ok ha h1 fun m H1 L' hm _ h2 => ?_
    obtain ⟨vq, vr, h4⟩ := sat_plA.1 (ref_open hm h2)
    have gp := (sat_get h4).1
    have hrow : RowI H1 vq (s.q n.addr) := slice_row (sat_sub h4)
    simp only [prOf] at gp
    simp only [RS, List.cons_append, List.nil_append, Option.isNone_some, Option.isNone_none, Option.isSome_some, Option.isSome_none, Nat.zero_add, Nat.add_zero, Nat.reduceAdd, List.getElem?_cons_zero, List.getElem?_cons_succ, List.length_cons, List.length_nil, List.all_cons, List.all_nil, Bool.and_self, Bool.and_true, Bool.true_and, Option.bind_some, Nat.reduceLeDiff, Nat.reduceEqDiff, Nat.le_refl, and_self, if_true, if_false, List.drop_zero, List.drop_succ_cons, List.take_zero, List.take_succ_cons, List.take_nil, List.drop_nil, true_and, and_true, decide_true, decide_false, Nat.reduceMul, Nat.zero_mul, Nat.one_mul, Nat.mul_one, gp, hrow.len]
    refine fault_ok ?_
    have e1 : fltS 32 s n = bif (((s.q n.addr).length : Int) == 0) then 0 else 2 := rfl
    have e2 : deedS 32 s n = s := by
      unfold deedS
      cases (fltS 32 s n == 0) <;> rfl
    rw [e1, e2] at hK
    exact hK _ L' (rnote_drop (n := n) h2)
  have b32 : ((k : Int) == 32) = false := kindn (j := 32) hk32
  simp only [RS, List.cons_append, List.nil_append, Option.isNone_some, Option.isNone_none, Option.isSome_some, Option.isSome_none, Nat.zero_add, Nat.add_zero, Nat.reduceAdd, List.getElem?_cons_zero, List.getElem?_cons_succ, List.length_cons, List.length_nil, List.all_cons, List.all_nil, Bool.and_self, Bool.and_true, Bool.true_and, Option.bind_some, Nat.reduceLeDiff, Nat.reduceEqDiff, Nat.le_refl, and_self, if_true, if_false, List.drop_zero, List.drop_succ_cons, List.take_zero, List.take_succ_cons, List.take_nil, List.drop_nil, true_and, and_true, decide_true, decide_false, Nat.reduceMul, Nat.zero_mul, Nat.one_mul, Nat.mul_one, g1, hk, b32]
  obtain ⟨vp, vw, ws, hrr, h2⟩ := sat_RefL.1 h1
  have gr := (sat_get h2).1
  have hwl := few_ws hrr
  have hw0 := sat_sub (sat_sub h2)
  have hlen := own_len hw0 ws.length (wrow_len ws) (by omega)
  simp only [hdR] at gr
  have h1W : sat (H.new (.cells n.rrow Ty.laybyref11_Note .fix)) (RefW r s L vw ws * (pts H.nx (.cells n.rrow Ty.laybyref11_Note .fix) * F)) := sat_RefW.2 ⟨vp, hrr, h2⟩
  generalize hH0 : H.new (.cells n.rrow Ty.laybyref11_Note .fix) = H0 at h1 h1W g1 h2 gr hw0 hlen ⊢
  -- the place of the thread's wait
  refine lp_rule (n := 80) (fun k' t H' => ∃ (i : Nat) (w : Int), i ≤ ws.length ∧ ws.length < k' + i ∧ ((w = -1 ∧ ∀ j, j < i → ∀ y, ws[j]? = some y → y.1 ≠ n.thread) ∨ ∃ j : Nat, w = (j : Int) ∧ j < i ∧ ∃ b, ws[j]? = some (n.thread, b)) ∧
    t = (ptr r, ptr H.nx, Value.int .i64 w, Value.int .i64 (i : Int), ()) ∧ H' = H0) ?_ ?_ ⟨0, -1, by omega, by omega, .inl ⟨rfl, fun j hj => by omega⟩, rfl, rfl⟩
  · rintro k' t H' ⟨i, w, hi, hk', hw, rfl, rfl⟩ R hR
    by_cases hil : i < ws.length
    · have hd : decide ((i : Int) < (ws.length : Int)) = true := decide_eq_true (by omega)
      obtain ⟨y, hy⟩ : ∃ y, ws[i]? = some y := ⟨_, List.getElem?_eq_getElem hil⟩
      obtain ⟨m, e1, e2, e3, e4⟩ := wt_at hw0 hy
      simp only [RS, List.cons_append, List.nil_append, Option.isNone_some, Option.isNone_none, Option.isSome_some, Option.isSome_none, Nat.zero_add, Nat.add_zero, Nat.reduceAdd, List.getElem?_cons_zero, List.getElem?_cons_succ, List.length_cons, List.length_nil, List.all_cons, List.all_nil, Bool.and_self, Bool.and_true, Bool.true_and, Option.bind_some, Nat.reduceLeDiff, Nat.reduceEqDiff, Nat.le_refl, and_self, if_true, if_false, List.drop_zero, List.drop_succ_cons, List.take_zero, List.take_succ_cons, List.take_nil, List.drop_nil, true_and, and_true, decide_true, decide_false, Nat.reduceMul, Nat.zero_mul, Nat.one_mul, Nat.mul_one, gr, hlen, hd]
      refine jn_of ?_
      simp only [RS, List.cons_append, List.nil_append, Option.isNone_some, Option.isNone_none, Option.isSome_some, Option.isSome_none, Nat.zero_add, Nat.add_zero, Nat.reduceAdd, List.getElem?_cons_zero, List.getElem?_cons_succ, List.length_cons, List.length_nil, List.all_cons, List.all_nil, Bool.and_self, Bool.and_true, Bool.true_and, Option.bind_some, Nat.reduceLeDiff, Nat.reduceEqDiff, Nat.le_refl, and_self, if_true, if_false, List.drop_zero, List.drop_succ_cons, List.take_zero, List.take_succ_cons, List.take_nil, List.drop_nil, true_and, and_true, decide_true, decide_false, Nat.reduceMul, Nat.zero_mul, Nat.one_mul, Nat.mul_one, gr, e1, e2, g1]
      by_cases hyt : y.1 = n.thread
      · have hb : (y.1 == n.thread) = true := by simpa using hyt
        simp only [hb, RS, List.cons_append, List.nil_append, Option.isNone_some, Option.isNone_none, Option.isSome_some, Option.isSome_none, Nat.zero_add, Nat.add_zero, Nat.reduceAdd, List.getElem?_cons_zero, List.getElem?_cons_succ, List.length_cons, List.length_nil, List.all_cons, List.all_nil, Bool.and_self, Bool.and_true, Bool.true_and, Option.bind_some, Nat.reduceLeDiff, Nat.reduceEqDiff, Nat.le_refl, and_self, if_true, if_false, List.drop_zero, List.drop_succ_cons, List.take_zero, List.take_succ_cons, List.take_nil, List.drop_nil, true_and, and_true, decide_true, decide_false, Nat.reduceMul, Nat.zero_mul, Nat.one_mul, Nat.mul_one, w64s (show i < 1000000000 by omega)]
        exact hR _ _ ⟨i + 1, i, by omega, by omega, .inr ⟨i, rfl, by omega, y.2, by rw [hy, ← hyt]⟩, rfl, rfl⟩
      · have hb : (y.1 == n.thread) = false := by simpa using hyt
        simp only [hb, RS, List.cons_append, List.nil_append, Option.isNone_some, Option.isNone_none, Option.isSome_some, Option.isSome_none, Nat.zero_add, Nat.add_zero, Nat.reduceAdd, List.getElem?_cons_zero, List.getElem?_cons_succ, List.length_cons, List.length_nil, List.all_cons, List.all_nil, Bool.and_self, Bool.and_true, Bool.true_and, Option.bind_some, Nat.reduceLeDiff, Nat.reduceEqDiff, Nat.le_refl, and_self, if_true, if_false, List.drop_zero, List.drop_succ_cons, List.take_zero, List.take_succ_cons, List.take_nil, List.drop_nil, true_and, and_true, decide_true, decide_false, Nat.reduceMul, Nat.zero_mul, Nat.one_mul, Nat.mul_one, w64s (show i < 1000000000 by omega)]
        refine hR _ _ ⟨i + 1, w, by omega, by omega, ?_, rfl, rfl⟩
        rcases hw with ⟨rfl, hno⟩ | ⟨j, rfl, hj, b, hb2⟩
        · refine .inl ⟨rfl, fun j hj z hz => ?_⟩
          by_cases hji : j = i
          · subst hji; rw [hy] at hz; cases hz; exact hyt
          · exact hno j (by omega) z hz
        · exact .inr ⟨j, rfl, by omega, b, hb2⟩
    · have hd : decide ((i : Int) < (ws.length : Int)) = false := decide_eq_false (by omega)
      have hwhere : (w = -1 ∧ s.wa n.thread = none) ∨ ∃ (j : Nat) (b : Int), w = (j : Int) ∧ ws[j]? = some (n.thread, b) ∧ s.wa n.thread = some b := by
        rcases hw with ⟨rfl, hno⟩ | ⟨j, rfl, hj, b, hb2⟩
        · refine .inl ⟨rfl, wa_none hrr fun y hy => ?_⟩
          obtain ⟨j, hj⟩ := List.mem_iff_getElem?.1 hy
          have hjl := (List.getElem?_eq_some_iff.1 hj).1
          exact hno j (by omega) y hj
        · exact .inr ⟨j, b, rfl, hb2, (hrr.wa _ _).2 (List.mem_of_getElem? hb2)⟩
      simp only [RS, List.cons_append, List.nil_append, Option.isNone_some, Option.isNone_none, Option.isSome_some, Option.isSome_none, Nat.zero_add, Nat.add_zero, Nat.reduceAdd, List.getElem?_cons_zero, List.getElem?_cons_succ, List.length_cons, List.length_nil, List.all_cons, List.all_nil, Bool.and_self, Bool.and_true, Bool.true_and, Option.bind_some, Nat.reduceLeDiff, Nat.reduceEqDiff, Nat.le_refl, and_self, if_true, if_false, List.drop_zero, List.drop_succ_cons, List.take_zero, List.take_succ_cons, List.take_nil, List.drop_nil, true_and, and_true, decide_true, decide_false, Nat.reduceMul, Nat.zero_mul, Nat.one_mul, Nat.mul_one, gr, hlen, hd, g1, hk]
      by_cases hk29 : k = 29
      · subst hk29
        have b29 : ((((29 : Nat) : Int)) == 29) = true := rfl
        have hmay : mayB 29 s n = (s.wa n.thread).isNone := rfl
        have hflt : fltS 29 s n = bif (s.wa n.thread).isNone then 0 else 3 := rfl
        simp only [RS, List.cons_append, List.nil_append, Option.isNone_some, Option.isNone_none, Option.isSome_some, Option.isSome_none, Nat.zero_add, Nat.add_zero, Nat.reduceAdd, List.getElem?_cons_zero, List.getElem?_cons_succ, List.length_cons, List.length_nil, List.all_cons, List.all_nil, Bool.and_self, Bool.and_true, Bool.true_and, Option.bind_some, Nat.reduceLeDiff, Nat.reduceEqDiff, Nat.le_refl, and_self, if_true, if_false, List.drop_zero, List.drop_succ_cons, List.take_zero, List.take_succ_cons, List.take_nil, List.drop_nil, true_and, and_true, decide_true, decide_false, Nat.reduceMul, Nat.zero_mul, Nat.one_mul, Nat.mul_one, b29]
        rcases hwhere with ⟨rfl, hwn⟩ | ⟨j, b, rfl, hj, hws⟩
        · have hd2 : decide ((-1 : Int) ≥ 0) = false := rfl
          have hde : deedS 29 s n = { s with wa := upd s.wa n.thread (some n.addr) } := by
            unfold deedS
            rw [hflt, hwn]; rfl
          rw [hflt, hde, hwn] at hK
          have n1 := sat_new (.cells [.int .i64 n.thread, .int .u32 n.addr] Ty.laybyref37_wait .fix) h2
          have n2 := sat_of_eq (B := ownS Ty.laybyref37_wait 2 vw (wrow ws) * (pts H'.nx (.cells [.int .i64 n.thread, .int .u32 n.addr] Ty.laybyref37_wait .fix) * (pts r (hdR s vp vw) * (ownS Ty.p_laybyref37_place 1 vp (prow L) * (bigS (plS s) L * (pts H.nx (.cells n.rrow Ty.laybyref11_Note .fix) * F)))))) n1 (by ac_rfl)
          obtain ⟨v', H2, e3, n3⟩ := app_own (bytes := 16) (n := 1) (cap := 1) (by omega) n2 rfl rfl (by omega) (by rw [wrow_len]; simp; omega)
          have cw := own_cell n3
          have n4 := sat_of_eq (B := pts r (hdR s vp vw) * (ownS Ty.p_laybyref37_place 1 vp (prow L) * (ownS Ty.laybyref37_wait 2 v' (wrow (ws ++ [(n.thread, n.addr)])) * (bigS (plS s) L * (pts H'.nx (.cells [.int .i64 n.thread, .int .u32 n.addr] Ty.laybyref37_wait .fix) * (pts H.nx (.cells n.rrow Ty.laybyref11_Note .fix) * F)))))) n3 (by rw [wrow_snoc]; ac_rfl)
          have g4 := (sat_get n4).1
          have es : stO 1 r 3 v' H2 (some (hdR s vp vw)) = some (.tuple ⟨[]⟩, H2.put r (hdR s vp v')) := stO_1 _ _ _ _ _ _ _ rfl cw.1 cw.2 (by simp)
          have n5 := sat_put (hdR s vp v') n4
          simp only [hdR] at g4 es
          simp only [RS, List.cons_append, List.nil_append, Option.isNone_some, Option.isNone_none, Option.isSome_some, Option.isSome_none, Nat.zero_add, Nat.add_zero, Nat.reduceAdd, List.getElem?_cons_zero, List.getElem?_cons_succ, List.length_cons, List.length_nil, List.all_cons, List.all_nil, Bool.and_self, Bool.and_true, Bool.true_and, Option.bind_some, Nat.reduceLeDiff, Nat.reduceEqDiff, Nat.le_refl, and_self, if_true, if_false, List.drop_zero, List.drop_succ_cons, List.take_zero, List.take_succ_cons, List.take_nil, List.drop_nil, true_and, and_true, decide_true, decide_false, Nat.reduceMul, Nat.zero_mul, Nat.one_mul, Nat.mul_one, hd2, gr, g1, put_res, e3, g4, es]
          have n6 : sat (H2.put r (hdR s vp v')) (RefL r { s with wa := upd s.wa n.thread (some n.addr) } L * (pts H'.nx (.cells [.int .i64 n.thread, .int .u32 n.addr] Ty.laybyref37_wait .fix) * (pts H.nx (.cells n.rrow Ty.laybyref11_Note .fix) * F))) := by
            refine sat_RefL.2 ⟨vp, v', ws ++ [(n.thread, n.addr)], ⟨hrr.nd, hrr.rg, hrr.no, ?_, ?_, ?_⟩, n5⟩
            · rw [List.map_append, List.nodup_append]
              refine ⟨hrr.wnd, by simp, fun b hb c hc e => ?_⟩
              simp at hc; subst hc; subst e
              obtain ⟨y, hy, e2⟩ := List.mem_map.1 hb
              have := (hrr.wa y.1 y.2).2 hy
              rw [e2, hwn] at this; cases this
            · intro p hp
              rcases List.mem_append.1 hp with hp | hp
              · exact hrr.wrg p hp
              · simp at hp; subst hp; exact hth
            · intro t a
              show upd s.wa n.thread (some n.addr) t = some a ↔ _
              by_cases ht : t = n.thread
              · subst ht
                rw [upd_self, List.mem_append]
                constructor
                · intro e; cases e; exact .inr (by simp)
                · rintro (hm | hm)
                  · have := (hrr.wa _ _).2 hm
                    rw [hwn] at this; cases this
                  · simp at hm; rw [hm]
              · rw [upd_ne _ _ ht, hrr.wa, List.mem_append]
                constructor
                · exact .inl
                · rintro (hm | hm)
                  · exact hm
                  · simp at hm; exact absurd hm.1 ht
          exact hK _ L (sat_sub (A := pts H'.nx (.cells [.int .i64 n.thread, .int .u32 n.addr] Ty.laybyref37_wait .fix) * pts H.nx (.cells n.rrow Ty.laybyref11_Note .fix)) (sat_of_eq n6 (by ac_rfl)))
        · have hd2 : decide ((j : Int) ≥ 0) = true := decide_eq_true (by omega)
          have hde : deedS 29 s n = s := by
            unfold deedS
            rw [hflt, hws]; rfl
          rw [hflt, hde, hws] at hK
          simp only [RS, List.cons_append, List.nil_append, Option.isNone_some, Option.isNone_none, Option.isSome_some, Option.isSome_none, Nat.zero_add, Nat.add_zero, Nat.reduceAdd, List.getElem?_cons_zero, List.getElem?_cons_succ, List.length_cons, List.length_nil, List.all_cons, List.all_nil, Bool.and_self, Bool.and_true, Bool.true_and, Option.bind_some, Nat.reduceLeDiff, Nat.reduceEqDiff, Nat.le_refl, and_self, if_true, if_false, List.drop_zero, List.drop_succ_cons, List.take_zero, List.take_succ_cons, List.take_nil, List.drop_nil, true_and, and_true, decide_true, decide_false, Nat.reduceMul, Nat.zero_mul, Nat.one_mul, Nat.mul_one, hd2]
          exact hK _ L (rnote_drop (n := n) h1)
      · have b29 : ((k : Int) == 29) = false := kindn (j := 29) hk29
        have hk3 : (k == 30 || k == 31) = true := by
          rcases hks with h | h | h | h
          · exact absurd h hk29
          · simp [h]
          · simp [h]
          · exact absurd h hk32
        have hts : thenS k s n = { s with wa := upd s.wa n.thread none } := by
          rcases hks with h | rfl | rfl | h
          · exact absurd h hk29
          · rfl
          · rfl
          · exact absurd h hk32
        simp only [RS, List.cons_append, List.nil_append, Option.isNone_some, Option.isNone_none, Option.isSome_some, Option.isSome_none, Nat.zero_add, Nat.add_zero, Nat.reduceAdd, List.getElem?_cons_zero, List.getElem?_cons_succ, List.length_cons, List.length_nil, List.all_cons, List.all_nil, Bool.and_self, Bool.and_true, Bool.true_and, Option.bind_some, Nat.reduceLeDiff, Nat.reduceEqDiff, Nat.le_refl, and_self, if_true, if_false, List.drop_zero, List.drop_succ_cons, List.take_zero, List.take_succ_cons, List.take_nil, List.drop_nil, true_and, and_true, decide_true, decide_false, Nat.reduceMul, Nat.zero_mul, Nat.one_mul, Nat.mul_one, b29]
        refine jn_rule (fun t H2 => ∃ (j : Nat), t = (ptr r, ptr H.nx, Value.int .i64 (j : Int), ()) ∧ H2 = H' ∧ ws[j]? = some (n.thread, n.addr)) ?_ ?_
        · rintro t H2 ⟨j, rfl, rfl, hj⟩
          have hws : s.wa n.thread = some n.addr := (hrr.wa _ _).2 (List.mem_of_getElem? hj)
          simp only [RS, List.cons_append, List.nil_append, Option.isNone_some, Option.isNone_none, Option.isSome_some, Option.isSome_none, Nat.zero_add, Nat.add_zero, Nat.reduceAdd, List.getElem?_cons_zero, List.getElem?_cons_succ, List.length_cons, List.length_nil, List.all_cons, List.all_nil, Bool.and_self, Bool.and_true, Bool.true_and, Option.bind_some, Nat.reduceLeDiff, Nat.reduceEqDiff, Nat.le_refl, and_self, if_true, if_false, List.drop_zero, List.drop_succ_cons, List.take_zero, List.take_succ_cons, List.take_nil, List.drop_nil, true_and, and_true, decide_true, decide_false, Nat.reduceMul, Nat.zero_mul, Nat.one_mul, Nat.mul_one, g1]
          refine atW_ok ha h1W fun m H3 L' hm _ h3W => ?_
          have h3 := RefW_L h3W
          have gn3 := (sat_get (sat_sub h3)).1
          obtain ⟨vq, vr, h4⟩ := sat_plA.1 (ref_open hm h3)
          have gp := (sat_get h4).1
          have hrow : RowI H3 vq (s.q n.addr) := slice_row (sat_sub h4)
          simp only [prOf] at gp
          simp only [RS, List.cons_append, List.nil_append, Option.isNone_some, Option.isNone_none, Option.isSome_some, Option.isSome_none, Nat.zero_add, Nat.add_zero, Nat.reduceAdd, List.getElem?_cons_zero, List.getElem?_cons_succ, List.length_cons, List.length_nil, List.all_cons, List.all_nil, Bool.and_self, Bool.and_true, Bool.true_and, Option.bind_some, Nat.reduceLeDiff, Nat.reduceEqDiff, Nat.le_refl, and_self, if_true, if_false, List.drop_zero, List.drop_succ_cons, List.take_zero, List.take_succ_cons, List.take_nil, List.drop_nil, true_and, and_true, decide_true, decide_false, Nat.reduceMul, Nat.zero_mul, Nat.one_mul, Nat.mul_one, gn3, same_refl, gp]
          refine rhas_ok hrow (by have := ho.qlen n.addr; omega) ?_
          cases hb : decide (n.thread ∈ s.q n.addr) with
          | true =>
            have hf : fltS k s n = 2 := by simp only [fltS, hk3, hws, hb, decide_true, cond_true]
            have hde : deedS k s n = s := by unfold deedS; rw [hf]; rfl
            rw [hf, hde] at hK
            simp only [RS, List.cons_append, List.nil_append, Option.isNone_some, Option.isNone_none, Option.isSome_some, Option.isSome_none, Nat.zero_add, Nat.add_zero, Nat.reduceAdd, List.getElem?_cons_zero, List.getElem?_cons_succ, List.length_cons, List.length_nil, List.all_cons, List.all_nil, Bool.and_self, Bool.and_true, Bool.true_and, Option.bind_some, Nat.reduceLeDiff, Nat.reduceEqDiff, Nat.le_refl, and_self, if_true, if_false, List.drop_zero, List.drop_succ_cons, List.take_zero, List.take_succ_cons, List.take_nil, List.drop_nil, true_and, and_true, decide_true, decide_false, Nat.reduceMul, Nat.zero_mul, Nat.one_mul, Nat.mul_one]
            exact hK _ L' (rnote_drop (n := n) h3)
          | false =>
            have hf : fltS k s n = 0 := by simp only [fltS, hk3, hws, hb, decide_true, cond_true, cond_false]
            have hde : deedS k s n = { s with wa := upd s.wa n.thread none } := by unfold deedS; rw [hf, hts]; rfl
            rw [hf, hde] at hK
            obtain ⟨vp2, hrr2, h5⟩ := sat_RefW.1 h3W
            have gr5 := (sat_get h5).1
            have hlen5 := own_len (sat_sub (sat_sub h5)) ws.length (wrow_len ws) (by omega)
            have hjl := (List.getElem?_eq_some_iff.1 hj).1
            have huniq : ∀ i y, ws[i]? = some y → (i = j ↔ y.1 = n.thread) := fun i y hy => by
              constructor
              · intro e; subst e; rw [hj] at hy; cases hy; rfl
              · intro e
                apply Classical.byContradiction
                intro hne
                have hil := (List.getElem?_eq_some_iff.1 hy).1
                have hpw := List.pairwise_iff_getElem.1 (show (ws.map (·.1)).Pairwise (· ≠ ·) from hrr.wnd)
                have e1 : (ws.map (·.1))[i]'(by simpa using hil) = n.thread := by
                  rw [List.getElem_map, (List.getElem?_eq_some_iff.1 hy).2, e]
                have e2 : (ws.map (·.1))[j]'(by simpa using hjl) = n.thread := by
                  rw [List.getElem_map, (List.getElem?_eq_some_iff.1 hj).2]
                rcases Nat.lt_or_gt_of_ne hne with h | h
                · exact hpw i j (by simpa using hil) (by simpa using hjl) h (by rw [e1, e2])
                · exact hpw j i (by simpa using hjl) (by simpa using hil) h (by rw [e1, e2])
            simp only [hdR] at gr5
            simp only [RS, List.cons_append, List.nil_append, Option.isNone_some, Option.isNone_none, Option.isSome_some, Option.isSome_none, Nat.zero_add, Nat.add_zero, Nat.reduceAdd, List.getElem?_cons_zero, List.getElem?_cons_succ, List.length_cons, List.length_nil, List.all_cons, List.all_nil, Bool.and_self, Bool.and_true, Bool.true_and, Option.bind_some, Nat.reduceLeDiff, Nat.reduceEqDiff, Nat.le_refl, and_self, if_true, if_false, List.drop_zero, List.drop_succ_cons, List.take_zero, List.take_succ_cons, List.take_nil, List.drop_nil, true_and, and_true, decide_true, decide_false, Nat.reduceMul, Nat.zero_mul, Nat.one_mul, Nat.mul_one]
            refine lp_rule (n := 80) (fun k' t H' => ∃ (i : Nat) (w : Value), i ≤ ws.length ∧ ws.length < k' + i ∧ t = (ptr r, Value.int .i64 (j : Int), w, Value.int .i64 (i : Int), ()) ∧
              sat H' (ownS Ty.laybyref37_wait 2 w (wrow ((ws.take i).filter fun p => p.1 != n.thread)) * (pts r (hdR s vp2 vw) * (ownS Ty.p_laybyref37_place 1 vp2 (prow L') * (ownS Ty.laybyref37_wait 2 vw (wrow ws) * (bigS (plS s) L' * (pts H.nx (.cells n.rrow Ty.laybyref11_Note .fix) * F))))))) ?_ ?_
              ⟨0, .slice none 0 0, by omega, by omega, rfl, own_nil _ _ h5⟩
            · rintro k' t H' ⟨i, w, hi, hk', rfl, h6⟩ R2 hR2
              have g6 := (sat_get (sat_sub h6)).1
              have hw6 := sat_sub (sat_sub (sat_sub h6))
              have hlen6 := own_len hw6 ws.length (wrow_len ws) (by omega)
              simp only [hdR] at g6
              by_cases hil : i < ws.length
              · have hd : decide ((i : Int) < (ws.length : Int)) = true := decide_eq_true (by omega)
                obtain ⟨y, hy⟩ : ∃ y, ws[i]? = some y := ⟨_, List.getElem?_eq_getElem hil⟩
                obtain ⟨m', e1, e2, e3, e4⟩ := wt_at hw6 hy
                have htk : ws.take (i + 1) = ws.take i ++ [y] := by
                  obtain ⟨hl, rfl⟩ := List.getElem?_eq_some_iff.1 hy
                  exact List.take_succ_eq_append_getElem hl
                simp only [RS, List.cons_append, List.nil_append, Option.isNone_some, Option.isNone_none, Option.isSome_some, Option.isSome_none, Nat.zero_add, Nat.add_zero, Nat.reduceAdd, List.getElem?_cons_zero, List.getElem?_cons_succ, List.length_cons, List.length_nil, List.all_cons, List.all_nil, Bool.and_self, Bool.and_true, Bool.true_and, Option.bind_some, Nat.reduceLeDiff, Nat.reduceEqDiff, Nat.le_refl, and_self, if_true, if_false, List.drop_zero, List.drop_succ_cons, List.take_zero, List.take_succ_cons, List.take_nil, List.drop_nil, true_and, and_true, decide_true, decide_false, Nat.reduceMul, Nat.zero_mul, Nat.one_mul, Nat.mul_one, g6, hlen6, hd]
                refine jn_of ?_
                simp only [RS, List.cons_append, List.nil_append, Option.isNone_some, Option.isNone_none, Option.isSome_some, Option.isSome_none, Nat.zero_add, Nat.add_zero, Nat.reduceAdd, List.getElem?_cons_zero, List.getElem?_cons_succ, List.length_cons, List.length_nil, List.all_cons, List.all_nil, Bool.and_self, Bool.and_true, Bool.true_and, Option.bind_some, Nat.reduceLeDiff, Nat.reduceEqDiff, Nat.le_refl, and_self, if_true, if_false, List.drop_zero, List.drop_succ_cons, List.take_zero, List.take_succ_cons, List.take_nil, List.drop_nil, true_and, and_true, decide_true, decide_false, Nat.reduceMul, Nat.zero_mul, Nat.one_mul, Nat.mul_one]
                by_cases hij : i = j
                · have hb : ((i : Int) != (j : Int)) = false := by subst hij; simp
                  have hyt : (y.1 != n.thread) = false := by simpa using (huniq i y hy).1 hij
                  simp only [hb, RS, List.cons_append, List.nil_append, Option.isNone_some, Option.isNone_none, Option.isSome_some, Option.isSome_none, Nat.zero_add, Nat.add_zero, Nat.reduceAdd, List.getElem?_cons_zero, List.getElem?_cons_succ, List.length_cons, List.length_nil, List.all_cons, List.all_nil, Bool.and_self, Bool.and_true, Bool.true_and, Option.bind_some, Nat.reduceLeDiff, Nat.reduceEqDiff, Nat.le_refl, and_self, if_true, if_false, List.drop_zero, List.drop_succ_cons, List.take_zero, List.take_succ_cons, List.take_nil, List.drop_nil, true_and, and_true, decide_true, decide_false, Nat.reduceMul, Nat.zero_mul, Nat.one_mul, Nat.mul_one, w64s (show i < 1000000000 by omega)]
                  refine hR2 _ _ ⟨i + 1, w, by omega, by omega, rfl, ?_⟩
                  rw [htk, List.filter_append, List.filter_cons, hyt]
                  simpa using h6
                · have hb : ((i : Int) != (j : Int)) = true := by
                    have : ¬ ((i : Int) = (j : Int)) := by omega
                    simpa using this
                  have hyt : (y.1 != n.thread) = true := by
                    have : ¬ (y.1 = n.thread) := fun e => hij ((huniq i y hy).2 e)
                    simpa using this
                  have n1 := sat_new (.cells [.int .i64 y.1, .int .u32 y.2] Ty.laybyref37_wait .fix) h6
                  have n2 := sat_of_eq (B := ownS Ty.laybyref37_wait 2 w (wrow ((ws.take i).filter fun p => p.1 != n.thread)) * (pts H'.nx (.cells [.int .i64 y.1, .int .u32 y.2] Ty.laybyref37_wait .fix) * (pts r (hdR s vp2 vw) * (ownS Ty.p_laybyref37_place 1 vp2 (prow L') * (ownS Ty.laybyref37_wait 2 vw (wrow ws) * (bigS (plS s) L' * (pts H.nx (.cells n.rrow Ty.laybyref11_Note .fix) * F))))))) n1 (by ac_rfl)
                  have hfl : ((ws.take i).filter fun p => p.1 != n.thread).length ≤ 64 := Nat.le_trans (List.length_filter_le _ _) (by simp; omega)
                  obtain ⟨v', H2, e5, n3⟩ := app_own (bytes := 16) (n := 1) (cap := 1) (by omega) n2 rfl rfl (by omega) (by rw [wrow_len]; simp only [List.length_cons, List.length_nil]; omega)
                  simp only [hb, RS, List.cons_append, List.nil_append, Option.isNone_some, Option.isNone_none, Option.isSome_some, Option.isSome_none, Nat.zero_add, Nat.add_zero, Nat.reduceAdd, List.getElem?_cons_zero, List.getElem?_cons_succ, List.length_cons, List.length_nil, List.all_cons, List.all_nil, Bool.and_self, Bool.and_true, Bool.true_and, Option.bind_some, Nat.reduceLeDiff, Nat.reduceEqDiff, Nat.le_refl, and_self, if_true, if_false, List.drop_zero, List.drop_succ_cons, List.take_zero, List.take_succ_cons, List.take_nil, List.drop_nil, true_and, and_true, decide_true, decide_false, Nat.reduceMul, Nat.zero_mul, Nat.one_mul, Nat.mul_one, g6, e1, e4, e5, w64s (show i < 1000000000 by omega)]
                  refine hR2 _ _ ⟨i + 1, v', by omega, by omega, rfl, ?_⟩
                  rw [htk, List.filter_append, List.filter_cons, hyt]
                  simp only [if_true, List.filter_nil]
                  rw [wrow_snoc]
                  exact sat_sub (A := pts H'.nx (.cells [.int .i64 y.1, .int .u32 y.2] Ty.laybyref37_wait .fix)) (sat_of_eq n3 (by ac_rfl))
              · have hd : decide ((i : Int) < (ws.length : Int)) = false := decide_eq_false (by omega)
                rw [List.take_of_length_le (by omega)] at h6
                have cw := own_cell h6
                have es : stO 1 r 3 w H' (some (hdR s vp2 vw)) = some (.tuple ⟨[]⟩, H'.put r (hdR s vp2 w)) := stO_1 _ _ _ _ _ _ _ rfl cw.1 cw.2 (by simp)
                have n4 := sat_put (hdR s vp2 w) (sat_of_eq h6 (by ac_rfl : _ = pts r (hdR s vp2 vw) * (ownS Ty.p_laybyref37_place 1 vp2 (prow L') * (ownS Ty.laybyref37_wait 2 w (wrow (ws.filter fun p => p.1 != n.thread)) * (bigS (plS s) L' * (ownS Ty.laybyref37_wait 2 vw (wrow ws) * (pts H.nx (.cells n.rrow Ty.laybyref11_Note .fix) * F)))))))
                simp only [hdR] at es
                simp only [RS, List.cons_append, List.nil_append, Option.isNone_some, Option.isNone_none, Option.isSome_some, Option.isSome_none, Nat.zero_add, Nat.add_zero, Nat.reduceAdd, List.getElem?_cons_zero, List.getElem?_cons_succ, List.length_cons, List.length_nil, List.all_cons, List.all_nil, Bool.and_self, Bool.and_true, Bool.true_and, Option.bind_some, Nat.reduceLeDiff, Nat.reduceEqDiff, Nat.le_refl, and_self, if_true, if_false, List.drop_zero, List.drop_succ_cons, List.take_zero, List.take_succ_cons, List.take_nil, List.drop_nil, true_and, and_true, decide_true, decide_false, Nat.reduceMul, Nat.zero_mul, Nat.one_mul, Nat.mul_one, g6, hlen6, hd, es]
                have n6 : sat (H'.put r (hdR s vp2 w)) (RefL r { s with wa := upd s.wa n.thread none } L' * (ownS Ty.laybyref37_wait 2 vw (wrow ws) * (pts H.nx (.cells n.rrow Ty.laybyref11_Note .fix) * F))) := by
                  refine sat_RefL.2 ⟨vp2, w, ws.filter fun p => p.1 != n.thread, ⟨hrr2.nd, hrr2.rg, hrr2.no, hrr.wnd.sublist (List.filter_sublist.map _), fun p hp => hrr.wrg p (List.mem_filter.1 hp).1, ?_⟩, n4⟩
                  intro t a
                  show upd s.wa n.thread none t = some a ↔ _
                  rw [List.mem_filter]
                  by_cases ht : t = n.thread
                  · subst ht
                    rw [upd_self]
                    simp
                  · rw [upd_ne _ _ ht, hrr.wa]
                    have : (t != n.thread) = true := by simpa using ht
                    simp [this]
                exact hK _ L' (sat_sub (A := ownS Ty.laybyref37_wait 2 vw (wrow ws) * pts H.nx (.cells n.rrow Ty.laybyref11_Note .fix)) (sat_of_eq n6 (by ac_rfl)))
            · rintro t H' ⟨i, w, h1, h2, -⟩; omega
        · intro R' hR'
          refine jn_of ?_
          simp only [RS, List.cons_append, List.nil_append, Option.isNone_some, Option.isNone_none, Option.isSome_some, Option.isSome_none, Nat.zero_add, Nat.add_zero, Nat.reduceAdd, List.getElem?_cons_zero, List.getElem?_cons_succ, List.length_cons, List.length_nil, List.all_cons, List.all_nil, Bool.and_self, Bool.and_true, Bool.true_and, Option.bind_some, Nat.reduceLeDiff, Nat.reduceEqDiff, Nat.le_refl, and_self, if_true, if_false, List.drop_zero, List.drop_succ_cons, List.take_zero, List.take_succ_cons, List.take_nil, List.drop_nil, true_and, and_true, decide_true, decide_false, Nat.reduceMul, Nat.zero_mul, Nat.one_mul, Nat.mul_one]
          rcases hwhere with ⟨rfl, hwn⟩ | ⟨j, b, rfl, hj, hws⟩
          · have hd2 : decide ((-1 : Int) < 0) = true := rfl
            have hf : fltS k s n = 3 := by simp [fltS, hk3, hwn]
            have hde : deedS k s n = s := by unfold deedS; rw [hf]; rfl
            rw [hf, hde] at hK
            simp only [gdD, RS, List.cons_append, List.nil_append, Option.isNone_some, Option.isNone_none, Option.isSome_some, Option.isSome_none, Nat.zero_add, Nat.add_zero, Nat.reduceAdd, List.getElem?_cons_zero, List.getElem?_cons_succ, List.length_cons, List.length_nil, List.all_cons, List.all_nil, Bool.and_self, Bool.and_true, Bool.true_and, Option.bind_some, Nat.reduceLeDiff, Nat.reduceEqDiff, Nat.le_refl, and_self, if_true, if_false, List.drop_zero, List.drop_succ_cons, List.take_zero, List.take_succ_cons, List.take_nil, List.drop_nil, true_and, and_true, decide_true, decide_false, Nat.reduceMul, Nat.zero_mul, Nat.one_mul, Nat.mul_one, hd2]
            exact hK _ L (rnote_drop (n := n) h1)
          · have hd2 : decide ((j : Int) < 0) = false := decide_eq_false (by omega)
            obtain ⟨m, e1, e2, e3, e4⟩ := wt_at hw0 hj
            simp only [gdD, RS, List.cons_append, List.nil_append, Option.isNone_some, Option.isNone_none, Option.isSome_some, Option.isSome_none, Nat.zero_add, Nat.add_zero, Nat.reduceAdd, List.getElem?_cons_zero, List.getElem?_cons_succ, List.length_cons, List.length_nil, List.all_cons, List.all_nil, Bool.and_self, Bool.and_true, Bool.true_and, Option.bind_some, Nat.reduceLeDiff, Nat.reduceEqDiff, Nat.le_refl, and_self, if_true, if_false, List.drop_zero, List.drop_succ_cons, List.take_zero, List.take_succ_cons, List.take_nil, List.drop_nil, true_and, and_true, decide_true, decide_false, Nat.reduceMul, Nat.zero_mul, Nat.one_mul, Nat.mul_one, hd2, gr, e1, e3, g1]
            by_cases hba : b = n.addr
            · have hb2 : (b != n.addr) = false := by simpa using hba
              simp only [hb2, RS, List.cons_append, List.nil_append, Option.isNone_some, Option.isNone_none, Option.isSome_some, Option.isSome_none, Nat.zero_add, Nat.add_zero, Nat.reduceAdd, List.getElem?_cons_zero, List.getElem?_cons_succ, List.length_cons, List.length_nil, List.all_cons, List.all_nil, Bool.and_self, Bool.and_true, Bool.true_and, Option.bind_some, Nat.reduceLeDiff, Nat.reduceEqDiff, Nat.le_refl, and_self, if_true, if_false, List.drop_zero, List.drop_succ_cons, List.take_zero, List.take_succ_cons, List.take_nil, List.drop_nil, true_and, and_true, decide_true, decide_false, Nat.reduceMul, Nat.zero_mul, Nat.one_mul, Nat.mul_one]
              exact hR' _ _ ⟨j, rfl, rfl, by rw [hj, hba]⟩
            · have hb2 : (b != n.addr) = true := by simpa using hba
              have hf : fltS k s n = 3 := by simp [fltS, hk3, hws, hba]
              have hde : deedS k s n = s := by unfold deedS; rw [hf]; rfl
              rw [hf, hde] at hK
              simp only [hb2, RS, List.cons_append, List.nil_append, Option.isNone_some, Option.isNone_none, Option.isSome_some, Option.isSome_none, Nat.zero_add, Nat.add_zero, Nat.reduceAdd, List.getElem?_cons_zero, List.getElem?_cons_succ, List.length_cons, List.length_nil, List.all_cons, List.all_nil, Bool.and_self, Bool.and_true, Bool.true_and, Option.bind_some, Nat.reduceLeDiff, Nat.reduceEqDiff, Nat.le_refl, and_self, if_true, if_false, List.drop_zero, List.drop_succ_cons, List.take_zero, List.take_succ_cons, List.take_nil, List.drop_nil, true_and, and_true, decide_true, decide_false, Nat.reduceMul, Nat.zero_mul, Nat.one_mul, Nat.mul_one]
              exact hK _ L (rnote_drop (n := n) h1)
  · rintro t H' ⟨i, w, h1, h2, -⟩; omega
end
end Go.Proofs.YtiolnpeniklhiaaGreatDoor
