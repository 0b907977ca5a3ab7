/- The abstract system's deeds: closures made and called, and the table of all.
   Conditions: what stands in memory, as each states it. -/
import Derived.Test.YtiolnpeniklhiaaGreatDoorSpec7
namespace Go.Proofs.YtiolnpeniklhiaaGreatDoor
open Go Go.Ab
set_option linter.all false
set_option maxRecDepth 100000

abbrev asksV (c1 c2 c3 : Nat) : Value := .func (.func Fi.specs_asks_1) ⟨[]⟩ ⟨[ptr c1, ptr c2, ptr c3]⟩
abbrev onMay (d : Nat) : Value := .func (.func Fi.specs_lockDeeds_1_1) ⟨[]⟩ ⟨[ptr d]⟩
abbrev onThen (d : Nat) : Value := .func (.func Fi.specs_lockDeeds_1_2) ⟨[]⟩ ⟨[ptr d]⟩
/-- Closures that ask: a fault, a condition and what is so then; of a lock; plain ones. -/
inductive DD where
  | ask (f : Int) (m t : Value)
  | on (m t : Value)
  | pl (v : Value)
def askA (f : Int) (m t v : Value) : SL := ex fun q : Nat × Nat × Nat × Nat × Nat => lift (v = asksV q.1 q.2.1 q.2.2.1) * (pts q.1 (.cells [m] q.2.2.2.1 .fix) * (pts q.2.1 (.cells [.int .u8 f] Ty.specs_Fault .fix) * pts q.2.2.1 (.cells [t] q.2.2.2.2 .fix)))
def deedA : DD → Value → SL
  | .ask f m t, v => askA f m t v
  | .on m t, v => ex fun q : Nat × Nat × Nat × Nat => (pts q.1 (.cells [m] q.2.2.1 .fix) * pts q.2.1 (.cells [t] q.2.2.2 .fix)) * askA 3 (onMay q.1) (onThen q.2.1) v
  | .pl w, v => lift (v = w)
def dF : Int → DD → Value → SL := fun _ d v => deedA d v
section
variable {H : AH} {F : SL} {K : KV}
theorem sat_askA {f : Int} {m t v : Value} : sat H (askA f m t v * F) ↔ ∃ c1 c2 c3 T1 T2 : Nat, v = asksV c1 c2 c3 ∧ sat H (pts c1 (.cells [m] T1 .fix) * (pts c2 (.cells [.int .u8 f] Ty.specs_Fault .fix) * (pts c3 (.cells [t] T2 .fix) * F))) := by
  unfold askA
  rw [sat_exS]
  constructor
  · rintro ⟨q, h⟩
    rw [sep_assoc, sat_lift] at h
    exact ⟨_, _, _, _, _, h.1, sat_of_eq h.2 (by ac_rfl)⟩
  · rintro ⟨c1, c2, c3, T1, T2, h1, h2⟩
    refine ⟨(c1, c2, c3, T1, T2), ?_⟩
    rw [sep_assoc, sat_lift]
    exact ⟨h1, sat_of_eq h2 (by dsimp only; ac_rfl)⟩
theorem asks_mem {f : Int} {m t : Value} {T1 T2 : Nat} (hs : sat H F) : sat (((H.new (.cells [.int .u8 f] Ty.specs_Fault .fix)).new (.cells [m] T1 .fix)).new (.cells [t] T2 .fix)) (askA f m t (asksV (H.nx + 1) H.nx (H.nx + 1 + 1)) * F) := by
  have h1 := sat_new (.cells [t] T2 .fix) (sat_new (.cells [m] T1 .fix) (sat_new (.cells [.int .u8 f] Ty.specs_Fault .fix) hs))
  simp only [AH.nx_new] at h1
  exact sat_askA.2 ⟨H.nx + 1, H.nx, H.nx + 1 + 1, T1, T2, rfl, sat_of_eq h1 (by ac_rfl)⟩
theorem asks_ok {f : Int} {m t : Value} (hm : cellsL m = [m] ∧ plain m = true) (ht : cellsL t = [t] ∧ plain t = true) (hs : sat H F) (hK : ∀ v H', sat H' (askA f m t v * F) → K v H') : DS Tryz.prog Fi.specs_asks [.int .u8 f, m, t] H K := by
  refine use_specs_asks 0 ?_
  unfold sh_specs_asks
  simp only [boxT_1 _ _ hm.1 hm.2, boxT_1 _ _ ht.1 ht.2, RS, List.cons_append, List.nil_append, Option.isNone_some, Option.isNone_none, Option.isSome_some, Option.isSome_none, Nat.zero_add, Nat.add_zero, Nat.reduceAdd, List.getElem?_cons_zero, List.getElem?_cons_succ, List.length_cons, List.length_nil, List.all_cons, List.all_nil, Bool.and_self, Bool.and_true, Bool.true_and, Option.bind_some, Nat.reduceLeDiff, Nat.reduceEqDiff, Nat.le_refl, and_self, if_true, if_false, List.drop_zero, List.drop_succ_cons, List.take_zero, List.take_succ_cons, List.take_nil, List.drop_nil, true_and, and_true, decide_true, decide_false, Nat.reduceMul, Nat.zero_mul, Nat.one_mul, Nat.mul_one]
  exact hK _ _ (asks_mem hs)
theorem on_mem {m t v : Value} {d1 d2 T1 T2 : Nat} (h : sat H (askA 3 (onMay d1) (onThen d2) v * (pts d2 (.cells [t] T2 .fix) * (pts d1 (.cells [m] T1 .fix) * F)))) : sat H (deedA (.on m t) v * F) := by
  simp only [deedA]
  rw [sat_exS]
  exact ⟨(d1, d2, T1, T2), sat_of_eq h (by dsimp only; ac_rfl)⟩
theorem on_ok {m t : Value} (hm : cellsL m = [m] ∧ plain m = true) (ht : cellsL t = [t] ∧ plain t = true) (hs : sat H F) (hK : ∀ v H', sat H' (deedA (.on m t) v * F) → K v H') : DS Tryz.prog Fi.specs_lockDeeds_1 [m, t] H K := by
  refine use_specs_lockDeeds_1 0 ?_
  unfold sh_specs_lockDeeds_1
  simp only [boxT_1 _ _ hm.1 hm.2, boxT_1 _ _ ht.1 ht.2, RS, List.cons_append, List.nil_append, Option.isNone_some, Option.isNone_none, Option.isSome_some, Option.isSome_none, Nat.zero_add, Nat.add_zero, Nat.reduceAdd, List.getElem?_cons_zero, List.getElem?_cons_succ, List.length_cons, List.length_nil, List.all_cons, List.all_nil, Bool.and_self, Bool.and_true, Bool.true_and, Option.bind_some, Nat.reduceLeDiff, Nat.reduceEqDiff, Nat.le_refl, and_self, if_true, if_false, List.drop_zero, List.drop_succ_cons, List.take_zero, List.take_succ_cons, List.take_nil, List.drop_nil, true_and, and_true, decide_true, decide_false, Nat.reduceMul, Nat.zero_mul, Nat.one_mul, Nat.mul_one]
  refine asks_ok ⟨rfl, rfl⟩ ⟨rfl, rfl⟩ (sat_new _ (sat_new _ hs)) fun v H' h => ?_
  exact hK _ _ (on_mem h)

/-! ### called -/
theorem asks1 {A : SL} {k c1 c2 c3 T1 T2 : Nat} {f : Int} {m t : Value} (hf : ∀ s n, fltS k s n = bif mayB k s n then 0 else f) (hf0 : f ≠ 0) (hm : MayP A k m) (ht : (t = .nilFunc ∧ ∀ s n, thenS k s n = s) ∨ ((∃ f x y, t = .func f x y) ∧ ThenP A k t))
    {p : Nat} {s : SS} {n : NV} (ho : s.ok) (hn : n.ok) (hk : n.kind = k) (hs : sat H (StR p s * (A * (pts c1 (.cells [m] T1 .fix) * (pts c2 (.cells [.int .u8 f] Ty.specs_Fault .fix) * (pts c3 (.cells [t] T2 .fix) * F))))))
    (hK : ∀ H', sat H' (StR p (deedS k s n) * F) → K (.int .u8 (fltS k s n)) H') : callV (DS Tryz.prog) (asksV c1 c2 c3) [ptr p, n.val] H K := by
  simp only [RS, List.cons_append, List.nil_append, Option.isNone_some, Option.isNone_none, Option.isSome_some, Option.isSome_none, Nat.zero_add, Nat.add_zero, Nat.reduceAdd, List.getElem?_cons_zero, List.getElem?_cons_succ, List.length_cons, List.length_nil, List.all_cons, List.all_nil, Bool.and_self, Bool.and_true, Bool.true_and, Option.bind_some, Nat.reduceLeDiff, Nat.reduceEqDiff, Nat.le_refl, and_self, if_true, if_false, List.drop_zero, List.drop_succ_cons, List.take_zero, List.take_succ_cons, List.take_nil, List.drop_nil, true_and, and_true, decide_true, decide_false, Nat.reduceMul, Nat.zero_mul, Nat.one_mul, Nat.mul_one]
  refine use_specs_asks_1 0 ?_
  unfold sh_specs_asks_1
  obtain ⟨h, g⟩ := note_new (n := n) hs
  have g1 := (sat_get (sat_sub (sat_sub (sat_sub h)))).1
  have h0 : sat (H.new (.cells n.row Ty.notes_Note .fix)) (StR p s * (A * (pts H.nx (.cells n.row Ty.notes_Note .fix) * (pts c1 (.cells [m] T1 .fix) * (pts c2 (.cells [.int .u8 f] Ty.specs_Fault .fix) * (pts c3 (.cells [t] T2 .fix) * F)))))) := sat_of_eq h (by ac_rfl)
  simp only [RS, List.cons_append, List.nil_append, Option.isNone_some, Option.isNone_none, Option.isSome_some, Option.isSome_none, Nat.zero_add, Nat.add_zero, Nat.reduceAdd, List.getElem?_cons_zero, List.getElem?_cons_succ, List.length_cons, List.length_nil, List.all_cons, List.all_nil, Bool.and_self, Bool.and_true, Bool.true_and, Option.bind_some, Nat.reduceLeDiff, Nat.reduceEqDiff, Nat.le_refl, and_self, if_true, if_false, List.drop_zero, List.drop_succ_cons, List.take_zero, List.take_succ_cons, List.take_nil, List.drop_nil, true_and, and_true, decide_true, decide_false, Nat.reduceMul, Nat.zero_mul, Nat.one_mul, Nat.mul_one, g, g1]
  refine hm p s n _ _ _ ho hn hk h0 fun H1 h1 => ?_
  have gs : H1.get H.nx = some (.cells n.row Ty.notes_Note .fix) := (sat_get (sat_sub (sat_sub h1))).1
  have gf : H1.get c2 = some (.cells [.int .u8 f] Ty.specs_Fault .fix) := (sat_get (sat_sub (sat_sub (sat_sub (sat_sub h1))))).1
  have gt : H1.get c3 = some (.cells [t] T2 .fix) := (sat_get (sat_sub (sat_sub (sat_sub (sat_sub (sat_sub h1)))))).1
  have drop : ∀ {H' : AH} {s' : SS}, sat H' (StR p s' * (A * (pts H.nx (.cells n.row Ty.notes_Note .fix) * (pts c1 (.cells [m] T1 .fix) * (pts c2 (.cells [.int .u8 f] Ty.specs_Fault .fix) * (pts c3 (.cells [t] T2 .fix) * F)))))) → sat H' (StR p s' * F) := fun h' =>
    sat_sub (A := A * (pts H.nx (.cells n.row Ty.notes_Note .fix) * (pts c1 (.cells [m] T1 .fix) * (pts c2 (.cells [.int .u8 f] Ty.specs_Fault .fix) * pts c3 (.cells [t] T2 .fix))))) (sat_of_eq h' (by ac_rfl))
  cases hb : mayB k s n with
  | false =>
    have e1 : fltS k s n = f := by rw [hf, hb]; rfl
    have e0 : (f == 0) = false := by simpa using hf0
    have e2 : deedS k s n = s := by simp only [deedS, e1, e0, cond_false]
    rw [e1, e2] at hK
    simp only [RS, List.cons_append, List.nil_append, Option.isNone_some, Option.isNone_none, Option.isSome_some, Option.isSome_none, Nat.zero_add, Nat.add_zero, Nat.reduceAdd, List.getElem?_cons_zero, List.getElem?_cons_succ, List.length_cons, List.length_nil, List.all_cons, List.all_nil, Bool.and_self, Bool.and_true, Bool.true_and, Option.bind_some, Nat.reduceLeDiff, Nat.reduceEqDiff, Nat.le_refl, and_self, if_true, if_false, List.drop_zero, List.drop_succ_cons, List.take_zero, List.take_succ_cons, List.take_nil, List.drop_nil, true_and, and_true, decide_true, decide_false, Nat.reduceMul, Nat.zero_mul, Nat.one_mul, Nat.mul_one, Bool.not_false, gf]
    exact hK _ (drop h1)
  | true =>
    have e1 : fltS k s n = 0 := by rw [hf, hb]; rfl
    have e2 : deedS k s n = thenS k s n := by simp [deedS, e1]
    rw [e1, e2] at hK
    rcases ht with ⟨rfl, hid⟩ | ⟨⟨f', x, y, rfl⟩, htp⟩
    · rw [hid] at hK
      simp only [RS, List.cons_append, List.nil_append, Option.isNone_some, Option.isNone_none, Option.isSome_some, Option.isSome_none, Nat.zero_add, Nat.add_zero, Nat.reduceAdd, List.getElem?_cons_zero, List.getElem?_cons_succ, List.length_cons, List.length_nil, List.all_cons, List.all_nil, Bool.and_self, Bool.and_true, Bool.true_and, Option.bind_some, Nat.reduceLeDiff, Nat.reduceEqDiff, Nat.le_refl, and_self, if_true, if_false, List.drop_zero, List.drop_succ_cons, List.take_zero, List.take_succ_cons, List.take_nil, List.drop_nil, true_and, and_true, decide_true, decide_false, Nat.reduceMul, Nat.zero_mul, Nat.one_mul, Nat.mul_one, Bool.not_true, gt, binT_neq_fn0]
      exact hK _ (drop h1)
    · simp only [RS, List.cons_append, List.nil_append, Option.isNone_some, Option.isNone_none, Option.isSome_some, Option.isSome_none, Nat.zero_add, Nat.add_zero, Nat.reduceAdd, List.getElem?_cons_zero, List.getElem?_cons_succ, List.length_cons, List.length_nil, List.all_cons, List.all_nil, Bool.and_self, Bool.and_true, Bool.true_and, Option.bind_some, Nat.reduceLeDiff, Nat.reduceEqDiff, Nat.le_refl, and_self, if_true, if_false, List.drop_zero, List.drop_succ_cons, List.take_zero, List.take_succ_cons, List.take_nil, List.drop_nil, true_and, and_true, decide_true, decide_false, Nat.reduceMul, Nat.zero_mul, Nat.one_mul, Nat.mul_one, Bool.not_true, gt, binT_neq_fn, gs]
      refine htp p s n _ _ _ ho hn hk hb h1 fun H2 h2 => ?_
      exact hK _ (drop h2)
theorem mOn {X : SL} {k d T : Nat} {m : Value} (h : LMay k m) (hk2 : ∀ s n, mayB k s n = lmay k (s.lk n.addr) n.thread) : MayP (pts d (.cells [m] T .fix) * X) k (onMay d) := by
  intro p s n H F K ho hn hk hs hK
  simp only [RS, List.cons_append, List.nil_append, Option.isNone_some, Option.isNone_none, Option.isSome_some, Option.isSome_none, Nat.zero_add, Nat.add_zero, Nat.reduceAdd, List.getElem?_cons_zero, List.getElem?_cons_succ, List.length_cons, List.length_nil, List.all_cons, List.all_nil, Bool.and_self, Bool.and_true, Bool.true_and, Option.bind_some, Nat.reduceLeDiff, Nat.reduceEqDiff, Nat.le_refl, and_self, if_true, if_false, List.drop_zero, List.drop_succ_cons, List.take_zero, List.take_succ_cons, List.take_nil, List.drop_nil, true_and, and_true, decide_true, decide_false, Nat.reduceMul, Nat.zero_mul, Nat.one_mul, Nat.mul_one]
  refine use_specs_lockDeeds_1_1 0 ?_
  unfold sh_specs_lockDeeds_1_1
  obtain ⟨h1, g⟩ := note_new (n := n) hs
  have gm : (H.new (.cells n.row Ty.notes_Note .fix)).get d = some (.cells [m] T .fix) := by
    have := sat_sub (sat_sub h1)
    rw [sep_assoc] at this
    exact (sat_get this).1
  simp only [RS, List.cons_append, List.nil_append, Option.isNone_some, Option.isNone_none, Option.isSome_some, Option.isSome_none, Nat.zero_add, Nat.add_zero, Nat.reduceAdd, List.getElem?_cons_zero, List.getElem?_cons_succ, List.length_cons, List.length_nil, List.all_cons, List.all_nil, Bool.and_self, Bool.and_true, Bool.true_and, Option.bind_some, Nat.reduceLeDiff, Nat.reduceEqDiff, Nat.le_refl, and_self, if_true, if_false, List.drop_zero, List.drop_succ_cons, List.take_zero, List.take_succ_cons, List.take_nil, List.drop_nil, true_and, and_true, decide_true, decide_false, Nat.reduceMul, Nat.zero_mul, Nat.one_mul, Nat.mul_one, g, gm]
  refine lock_ok h1 fun v H1 h2 => ?_
  have gn := (sat_get (sat_sub (sat_sub h2))).1
  have gm1 : H1.get d = some (.cells [m] T .fix) := by
    have := sat_sub (sat_sub (sat_sub h2))
    rw [sep_assoc] at this
    exact (sat_get this).1
  simp only [RS, List.cons_append, List.nil_append, Option.isNone_some, Option.isNone_none, Option.isSome_some, Option.isSome_none, Nat.zero_add, Nat.add_zero, Nat.reduceAdd, List.getElem?_cons_zero, List.getElem?_cons_succ, List.length_cons, List.length_nil, List.all_cons, List.all_nil, Bool.and_self, Bool.and_true, Bool.true_and, Option.bind_some, Nat.reduceLeDiff, Nat.reduceEqDiff, Nat.le_refl, and_self, if_true, if_false, List.drop_zero, List.drop_succ_cons, List.take_zero, List.take_succ_cons, List.take_nil, List.drop_nil, true_and, and_true, decide_true, decide_false, Nat.reduceMul, Nat.zero_mul, Nat.one_mul, Nat.mul_one, gn, gm1, same_refl]
  refine h n.addr (s.lk n.addr) v n.thread H1 _ _ hn.th h2 ?_
  rw [hk2] at hK
  exact hK _ (note_drop (lock_close' h2))
theorem tOn {X : SL} {k d T : Nat} {t : Value} (h : LThen k t) (hk2 : ∀ s n, mayB k s n = lmay k (s.lk n.addr) n.thread) (hk3 : ∀ s n, thenS k s n = { s with lk := upd s.lk n.addr (lthen k (s.lk n.addr) n.thread) }) : ThenP (X * pts d (.cells [t] T .fix)) k (onThen d) := by
  intro p s n H F K ho hn hk hmay hs hK
  simp only [RS, List.cons_append, List.nil_append, Option.isNone_some, Option.isNone_none, Option.isSome_some, Option.isSome_none, Nat.zero_add, Nat.add_zero, Nat.reduceAdd, List.getElem?_cons_zero, List.getElem?_cons_succ, List.length_cons, List.length_nil, List.all_cons, List.all_nil, Bool.and_self, Bool.and_true, Bool.true_and, Option.bind_some, Nat.reduceLeDiff, Nat.reduceEqDiff, Nat.le_refl, and_self, if_true, if_false, List.drop_zero, List.drop_succ_cons, List.take_zero, List.take_succ_cons, List.take_nil, List.drop_nil, true_and, and_true, decide_true, decide_false, Nat.reduceMul, Nat.zero_mul, Nat.one_mul, Nat.mul_one]
  refine use_specs_lockDeeds_1_2 0 ?_
  unfold sh_specs_lockDeeds_1_2
  obtain ⟨h1, g⟩ := note_new (n := n) hs
  have gm : (H.new (.cells n.row Ty.notes_Note .fix)).get d = some (.cells [t] T .fix) := by
    have := sat_sub (sat_sub h1)
    rw [sep_comm X, sep_assoc] at this
    exact (sat_get this).1
  simp only [RS, List.cons_append, List.nil_append, Option.isNone_some, Option.isNone_none, Option.isSome_some, Option.isSome_none, Nat.zero_add, Nat.add_zero, Nat.reduceAdd, List.getElem?_cons_zero, List.getElem?_cons_succ, List.length_cons, List.length_nil, List.all_cons, List.all_nil, Bool.and_self, Bool.and_true, Bool.true_and, Option.bind_some, Nat.reduceLeDiff, Nat.reduceEqDiff, Nat.le_refl, and_self, if_true, if_false, List.drop_zero, List.drop_succ_cons, List.take_zero, List.take_succ_cons, List.take_nil, List.drop_nil, true_and, and_true, decide_true, decide_false, Nat.reduceMul, Nat.zero_mul, Nat.one_mul, Nat.mul_one, g, gm]
  refine lock_ok h1 fun v H1 h2 => ?_
  have gn := (sat_get (sat_sub (sat_sub h2))).1
  have gm1 : H1.get d = some (.cells [t] T .fix) := by
    have := sat_sub (sat_sub (sat_sub h2))
    rw [sep_comm X, sep_assoc] at this
    exact (sat_get this).1
  simp only [RS, List.cons_append, List.nil_append, Option.isNone_some, Option.isNone_none, Option.isSome_some, Option.isSome_none, Nat.zero_add, Nat.add_zero, Nat.reduceAdd, List.getElem?_cons_zero, List.getElem?_cons_succ, List.length_cons, List.length_nil, List.all_cons, List.all_nil, Bool.and_self, Bool.and_true, Bool.true_and, Option.bind_some, Nat.reduceLeDiff, Nat.reduceEqDiff, Nat.le_refl, and_self, if_true, if_false, List.drop_zero, List.drop_succ_cons, List.take_zero, List.take_succ_cons, List.take_nil, List.drop_nil, true_and, and_true, decide_true, decide_false, Nat.reduceMul, Nat.zero_mul, Nat.one_mul, Nat.mul_one, gn, gm1, same_refl]
  rw [hk2] at hmay
  refine h n.addr (s.lk n.addr) v n.thread H1 _ _ hn.th hmay h2 fun H2 h3 => ?_
  rw [hk3] at hK
  exact hK _ (note_drop (lock_close h3))
/-- What a deed of the table does, called. -/
def DD.OK (k : Nat) (d : DD) : Prop := ∀ (v : Value) (p : Nat) (s : SS) (n : NV) (H : AH) (F : SL) (K : KV), s.ok → n.ok → n.kind = k → sat H (StR p s * (deedA d v * F)) → (∀ H', sat H' (StR p (deedS k s n) * F) → K (.int .u8 (fltS k s n)) H') → callV (DS Tryz.prog) v [ptr p, n.val] H K
theorem ask_OK {k : Nat} {f : Int} {m t : Value} (hf : ∀ s n, fltS k s n = bif mayB k s n then 0 else f) (hf0 : f ≠ 0) (hm : MayP emp k m) (ht : (t = .nilFunc ∧ ∀ s n, thenS k s n = s) ∨ ((∃ f x y, t = .func f x y) ∧ ThenP emp k t)) : (DD.ask f m t).OK k := by
  intro v p s n H F K ho hn hk hs hK
  obtain ⟨c1, c2, c3, T1, T2, rfl, h⟩ := sat_askA.1 (sep_left_comm (StR p s) (askA f m t v) F ▸ hs)
  exact asks1 hf hf0 hm ht ho hn hk (sat_of_eq h (by rw [emp_sep]; ac_rfl)) hK
theorem on_OK {k : Nat} {m t : Value} (hf : ∀ s n, fltS k s n = bif mayB k s n then 0 else 3) (h1 : LMay k m) (h2 : LThen k t) (hk2 : ∀ s n, mayB k s n = lmay k (s.lk n.addr) n.thread) (hk3 : ∀ s n, thenS k s n = { s with lk := upd s.lk n.addr (lthen k (s.lk n.addr) n.thread) }) : (DD.on m t).OK k := by
  intro v p s n H F K ho hn hk hs hK
  have hs' := sep_left_comm (StR p s) (deedA (.on m t) v) F ▸ hs
  simp only [deedA] at hs'
  rw [sat_exS] at hs'
  obtain ⟨q, hq⟩ := hs'
  have hq2 : sat H (askA 3 (onMay q.1) (onThen q.2.1) v * ((pts q.1 (.cells [m] q.2.2.1 .fix) * pts q.2.1 (.cells [t] q.2.2.2 .fix)) * (StR p s * F))) := sat_of_eq hq (by ac_rfl)
  obtain ⟨c1, c2, c3, T1, T2, rfl, h⟩ := sat_askA.1 hq2
  have h3 : sat H (StR p s * ((pts q.1 (.cells [m] q.2.2.1 .fix) * pts q.2.1 (.cells [t] q.2.2.2 .fix)) * (pts c1 (.cells [onMay q.1] T1 .fix) * (pts c2 (.cells [.int .u8 3] Ty.specs_Fault .fix) * (pts c3 (.cells [onThen q.2.1] T2 .fix) * F))))) := sat_of_eq h (by ac_rfl)
  exact asks1 hf (by decide) (mOn h1 hk2) (.inr ⟨⟨_, _, _, rfl⟩, tOn h2 hk2 hk3⟩) ho hn hk h3 hK
theorem pl_OK {k : Nat} {w : Value} (h : DeedP emp k w) : (DD.pl w).OK k := by
  intro v p s n H F K ho hn hk hs hK
  have hs' := sep_left_comm (StR p s) (deedA (.pl w) v) F ▸ hs
  obtain ⟨rfl, h1⟩ := sat_lift.1 hs'
  exact h p s n H F K ho hn hk (by rw [emp_sep]; exact h1) fun H' h' => hK H' (by rw [emp_sep] at h'; exact h')

/-! ### the table -/
def qT : Int → Option DD := upd (upd (upd (upd (upd (fun _ => none) 1 (some (.ask 2 (fv Fi.specs_queueDeeds_1) (fv Fi.specs_queueDeeds_2)))) 2 (some (.ask 2 (fv Fi.specs_queueDeeds_3) (fv Fi.specs_queueDeeds_4))))
  3 (some (.ask 2 (fv Fi.specs_queueDeeds_5) (fv Fi.specs_queueDeeds_6)))) 4 (some (.ask 2 (fv Fi.specs_queueDeeds_7) (fv Fi.specs_queueDeeds_8)))) 5 (some (.ask 2 (fv Fi.specs_queueDeeds_9) (fv Fi.specs_queueDeeds_10)))
def mT : Int → Option DD := upd (upd (upd (upd (upd (fun _ => none) 16 (some (.ask 3 (fv Fi.specs_mutexDeeds_1) (fv Fi.specs_mutexDeeds_2)))) 17 (some (.ask 3 (fv Fi.specs_has) (fv Fi.specs_mutexDeeds_3))))
  18 (some (.ask 3 (fv Fi.specs_has) (fv Fi.specs_mutexDeeds_4)))) 19 (some (.ask 3 (fv Fi.specs_mutexDeeds_5) .nilFunc))) 20 (some (.ask 3 (fv Fi.specs_mutexDeeds_6) .nilFunc))
def lT : Int → Option DD := upd (upd (upd (upd (upd (upd (upd (upd (fun _ => none) 21 (some (.on (fv Fi.specs_lockDeeds_2) (fv Fi.specs_lockDeeds_3)))) 22 (some (.on (fv Fi.specs_lockDeeds_4) (fv Fi.specs_lockDeeds_5))))
  23 (some (.on (fv Fi.specs_lockDeeds_6) (fv Fi.specs_lockDeeds_7)))) 24 (some (.on (fv Fi.specs_lockDeeds_8) (fv Fi.specs_lockDeeds_9)))) 25 (some (.on (fv Fi.specs_lockDeeds_10) (fv Fi.specs_lockDeeds_11))))
  26 (some (.on (fv Fi.specs_lockDeeds_12) (fv Fi.specs_lockDeeds_13)))) 27 (some (.on (fv Fi.specs_lockDeeds_14) (fv Fi.specs_lockDeeds_15)))) 28 (some (.on (fv Fi.specs_lockDeeds_16) (fv Fi.specs_lockDeeds_17)))
def wT : Int → Option DD := upd (upd (upd (upd (fun _ => none) 29 (some (.ask 3 (fv Fi.specs_waitDeeds_1) (fv Fi.specs_waitDeeds_2)))) 30 (some (.pl (fv Fi.specs_gives)))) 31 (some (.pl (fv Fi.specs_gives)))) 32 (some (.ask 2 (fv Fi.specs_waitDeeds_3) .nilFunc))
def nT : Int → Option DD := upd (upd (upd (upd (upd (fun _ => none) 33 (some (.ask 3 (fv Fi.specs_onceDeeds_2) (fv Fi.specs_onceDeeds_3)))) 34 (some (.ask 3 (fv Fi.specs_onceDeeds_1) (fv Fi.specs_onceDeeds_4))))
  35 (some (.ask 3 (fv Fi.specs_onceDeeds_1) (fv Fi.specs_onceDeeds_5)))) 36 (some (.ask 3 (fv Fi.specs_onceDeeds_6) .nilFunc))) 37 (some (.ask 3 (fv Fi.specs_onceDeeds_7) .nilFunc))
/-- A deed laid into a table. -/
theorem tab_set {m : Nat} {D : Int → Option DD} {k : Int} {d : DD} {v : Value} (h : sat H (deedA d v * (mapA .u8 m D dF * F))) : ∃ H', muO m (.int .u8) (.int .u8 k) v H (H.get m) = some (.tuple ⟨[]⟩, H') ∧ sat H' (mapA .u8 m (upd D k (some d)) dF * F) :=
  map_set (f := dF) (x := d) (sep_left_comm (deedA d v) (mapA .u8 m D dF) F ▸ h)
theorem tab_new (h : sat H F) : sat (H.new (.map [] 0)) (mapA .u8 H.nx (fun _ => (none : Option DD)) dF * F) := map_empty (sat_new _ h)
theorem queueDeeds_ok (hs : sat H F) (hK : ∀ m H', sat H' (mapA .u8 m qT dF * F) → K (.map (some m)) H') : DS Tryz.prog Fi.specs_queueDeeds [] H K := by
  refine use_specs_queueDeeds 0 ?_
  unfold sh_specs_queueDeeds
  have h0 := tab_new hs
  simp only [RS, List.cons_append, List.nil_append, Option.isNone_some, Option.isNone_none, Option.isSome_some, Option.isSome_none, Nat.zero_add, Nat.add_zero, Nat.reduceAdd, List.getElem?_cons_zero, List.getElem?_cons_succ, List.length_cons, List.length_nil, List.all_cons, List.all_nil, Bool.and_self, Bool.and_true, Bool.true_and, Option.bind_some, Nat.reduceLeDiff, Nat.reduceEqDiff, Nat.le_refl, and_self, if_true, if_false, List.drop_zero, List.drop_succ_cons, List.take_zero, List.take_succ_cons, List.take_nil, List.drop_nil, true_and, and_true, decide_true, decide_false, Nat.reduceMul, Nat.zero_mul, Nat.one_mul, Nat.mul_one]
  refine asks_ok ⟨rfl, rfl⟩ ⟨rfl, rfl⟩ h0 fun v1 H1 h1 => ?_
  obtain ⟨H1', e1, h1'⟩ := tab_set (k := 1) (d := .ask 2 (fv Fi.specs_queueDeeds_1) (fv Fi.specs_queueDeeds_2)) h1
  simp only [RS, List.cons_append, List.nil_append, Option.isNone_some, Option.isNone_none, Option.isSome_some, Option.isSome_none, Nat.zero_add, Nat.add_zero, Nat.reduceAdd, List.getElem?_cons_zero, List.getElem?_cons_succ, List.length_cons, List.length_nil, List.all_cons, List.all_nil, Bool.and_self, Bool.and_true, Bool.true_and, Option.bind_some, Nat.reduceLeDiff, Nat.reduceEqDiff, Nat.le_refl, and_self, if_true, if_false, List.drop_zero, List.drop_succ_cons, List.take_zero, List.take_succ_cons, List.take_nil, List.drop_nil, true_and, and_true, decide_true, decide_false, Nat.reduceMul, Nat.zero_mul, Nat.one_mul, Nat.mul_one, e1]
  refine asks_ok ⟨rfl, rfl⟩ ⟨rfl, rfl⟩ h1' fun v2 H2 h2 => ?_
  obtain ⟨H2', e2, h2'⟩ := tab_set (k := 2) (d := .ask 2 (fv Fi.specs_queueDeeds_3) (fv Fi.specs_queueDeeds_4)) h2
  simp only [RS, List.cons_append, List.nil_append, Option.isNone_some, Option.isNone_none, Option.isSome_some, Option.isSome_none, Nat.zero_add, Nat.add_zero, Nat.reduceAdd, List.getElem?_cons_zero, List.getElem?_cons_succ, List.length_cons, List.length_nil, List.all_cons, List.all_nil, Bool.and_self, Bool.and_true, Bool.true_and, Option.bind_some, Nat.reduceLeDiff, Nat.reduceEqDiff, Nat.le_refl, and_self, if_true, if_false, List.drop_zero, List.drop_succ_cons, List.take_zero, List.take_succ_cons, List.take_nil, List.drop_nil, true_and, and_true, decide_true, decide_false, Nat.reduceMul, Nat.zero_mul, Nat.one_mul, Nat.mul_one, e2]
  refine asks_ok ⟨rfl, rfl⟩ ⟨rfl, rfl⟩ h2' fun v3 H3 h3 => ?_
  obtain ⟨H3', e3, h3'⟩ := tab_set (k := 3) (d := .ask 2 (fv Fi.specs_queueDeeds_5) (fv Fi.specs_queueDeeds_6)) h3
  simp only [RS, List.cons_append, List.nil_append, Option.isNone_some, Option.isNone_none, Option.isSome_some, Option.isSome_none, Nat.zero_add, Nat.add_zero, Nat.reduceAdd, List.getElem?_cons_zero, List.getElem?_cons_succ, List.length_cons, List.length_nil, List.all_cons, List.all_nil, Bool.and_self, Bool.and_true, Bool.true_and, Option.bind_some, Nat.reduceLeDiff, Nat.reduceEqDiff, Nat.le_refl, and_self, if_true, if_false, List.drop_zero, List.drop_succ_cons, List.take_zero, List.take_succ_cons, List.take_nil, List.drop_nil, true_and, and_true, decide_true, decide_false, Nat.reduceMul, Nat.zero_mul, Nat.one_mul, Nat.mul_one, e3]
  refine asks_ok ⟨rfl, rfl⟩ ⟨rfl, rfl⟩ h3' fun v4 H4 h4 => ?_
  obtain ⟨H4', e4, h4'⟩ := tab_set (k := 4) (d := .ask 2 (fv Fi.specs_queueDeeds_7) (fv Fi.specs_queueDeeds_8)) h4
  simp only [RS, List.cons_append, List.nil_append, Option.isNone_some, Option.isNone_none, Option.isSome_some, Option.isSome_none, Nat.zero_add, Nat.add_zero, Nat.reduceAdd, List.getElem?_cons_zero, List.getElem?_cons_succ, List.length_cons, List.length_nil, List.all_cons, List.all_nil, Bool.and_self, Bool.and_true, Bool.true_and, Option.bind_some, Nat.reduceLeDiff, Nat.reduceEqDiff, Nat.le_refl, and_self, if_true, if_false, List.drop_zero, List.drop_succ_cons, List.take_zero, List.take_succ_cons, List.take_nil, List.drop_nil, true_and, and_true, decide_true, decide_false, Nat.reduceMul, Nat.zero_mul, Nat.one_mul, Nat.mul_one, e4]
  refine asks_ok ⟨rfl, rfl⟩ ⟨rfl, rfl⟩ h4' fun v5 H5 h5 => ?_
  obtain ⟨H5', e5, h5'⟩ := tab_set (k := 5) (d := .ask 2 (fv Fi.specs_queueDeeds_9) (fv Fi.specs_queueDeeds_10)) h5
  simp only [RS, List.cons_append, List.nil_append, Option.isNone_some, Option.isNone_none, Option.isSome_some, Option.isSome_none, Nat.zero_add, Nat.add_zero, Nat.reduceAdd, List.getElem?_cons_zero, List.getElem?_cons_succ, List.length_cons, List.length_nil, List.all_cons, List.all_nil, Bool.and_self, Bool.and_true, Bool.true_and, Option.bind_some, Nat.reduceLeDiff, Nat.reduceEqDiff, Nat.le_refl, and_self, if_true, if_false, List.drop_zero, List.drop_succ_cons, List.take_zero, List.take_succ_cons, List.take_nil, List.drop_nil, true_and, and_true, decide_true, decide_false, Nat.reduceMul, Nat.zero_mul, Nat.one_mul, Nat.mul_one, e5]
  exact hK _ _ h5'
theorem mutexDeeds_ok (hs : sat H F) (hK : ∀ m H', sat H' (mapA .u8 m mT dF * F) → K (.map (some m)) H') : DS Tryz.prog Fi.specs_mutexDeeds [] H K := by
  refine use_specs_mutexDeeds 0 ?_
  unfold sh_specs_mutexDeeds
  have h0 := tab_new hs
  simp only [RS, List.cons_append, List.nil_append, Option.isNone_some, Option.isNone_none, Option.isSome_some, Option.isSome_none, Nat.zero_add, Nat.add_zero, Nat.reduceAdd, List.getElem?_cons_zero, List.getElem?_cons_succ, List.length_cons, List.length_nil, List.all_cons, List.all_nil, Bool.and_self, Bool.and_true, Bool.true_and, Option.bind_some, Nat.reduceLeDiff, Nat.reduceEqDiff, Nat.le_refl, and_self, if_true, if_false, List.drop_zero, List.drop_succ_cons, List.take_zero, List.take_succ_cons, List.take_nil, List.drop_nil, true_and, and_true, decide_true, decide_false, Nat.reduceMul, Nat.zero_mul, Nat.one_mul, Nat.mul_one]
  refine asks_ok ⟨rfl, rfl⟩ ⟨rfl, rfl⟩ h0 fun v1 H1 h1 => ?_
  obtain ⟨H1', e1, h1'⟩ := tab_set (k := 16) (d := .ask 3 (fv Fi.specs_mutexDeeds_1) (fv Fi.specs_mutexDeeds_2)) h1
  simp only [RS, List.cons_append, List.nil_append, Option.isNone_some, Option.isNone_none, Option.isSome_some, Option.isSome_none, Nat.zero_add, Nat.add_zero, Nat.reduceAdd, List.getElem?_cons_zero, List.getElem?_cons_succ, List.length_cons, List.length_nil, List.all_cons, List.all_nil, Bool.and_self, Bool.and_true, Bool.true_and, Option.bind_some, Nat.reduceLeDiff, Nat.reduceEqDiff, Nat.le_refl, and_self, if_true, if_false, List.drop_zero, List.drop_succ_cons, List.take_zero, List.take_succ_cons, List.take_nil, List.drop_nil, true_and, and_true, decide_true, decide_false, Nat.reduceMul, Nat.zero_mul, Nat.one_mul, Nat.mul_one, e1]
  refine asks_ok ⟨rfl, rfl⟩ ⟨rfl, rfl⟩ h1' fun v2 H2 h2 => ?_
  obtain ⟨H2', e2, h2'⟩ := tab_set (k := 17) (d := .ask 3 (fv Fi.specs_has) (fv Fi.specs_mutexDeeds_3)) h2
  simp only [RS, List.cons_append, List.nil_append, Option.isNone_some, Option.isNone_none, Option.isSome_some, Option.isSome_none, Nat.zero_add, Nat.add_zero, Nat.reduceAdd, List.getElem?_cons_zero, List.getElem?_cons_succ, List.length_cons, List.length_nil, List.all_cons, List.all_nil, Bool.and_self, Bool.and_true, Bool.true_and, Option.bind_some, Nat.reduceLeDiff, Nat.reduceEqDiff, Nat.le_refl, and_self, if_true, if_false, List.drop_zero, List.drop_succ_cons, List.take_zero, List.take_succ_cons, List.take_nil, List.drop_nil, true_and, and_true, decide_true, decide_false, Nat.reduceMul, Nat.zero_mul, Nat.one_mul, Nat.mul_one, e2]
  refine asks_ok ⟨rfl, rfl⟩ ⟨rfl, rfl⟩ h2' fun v3 H3 h3 => ?_
  obtain ⟨H3', e3, h3'⟩ := tab_set (k := 18) (d := .ask 3 (fv Fi.specs_has) (fv Fi.specs_mutexDeeds_4)) h3
  simp only [RS, List.cons_append, List.nil_append, Option.isNone_some, Option.isNone_none, Option.isSome_some, Option.isSome_none, Nat.zero_add, Nat.add_zero, Nat.reduceAdd, List.getElem?_cons_zero, List.getElem?_cons_succ, List.length_cons, List.length_nil, List.all_cons, List.all_nil, Bool.and_self, Bool.and_true, Bool.true_and, Option.bind_some, Nat.reduceLeDiff, Nat.reduceEqDiff, Nat.le_refl, and_self, if_true, if_false, List.drop_zero, List.drop_succ_cons, List.take_zero, List.take_succ_cons, List.take_nil, List.drop_nil, true_and, and_true, decide_true, decide_false, Nat.reduceMul, Nat.zero_mul, Nat.one_mul, Nat.mul_one, e3]
  refine asks_ok ⟨rfl, rfl⟩ ⟨rfl, rfl⟩ h3' fun v4 H4 h4 => ?_
  obtain ⟨H4', e4, h4'⟩ := tab_set (k := 19) (d := .ask 3 (fv Fi.specs_mutexDeeds_5) .nilFunc) h4
  simp only [RS, List.cons_append, List.nil_append, Option.isNone_some, Option.isNone_none, Option.isSome_some, Option.isSome_none, Nat.zero_add, Nat.add_zero, Nat.reduceAdd, List.getElem?_cons_zero, List.getElem?_cons_succ, List.length_cons, List.length_nil, List.all_cons, List.all_nil, Bool.and_self, Bool.and_true, Bool.true_and, Option.bind_some, Nat.reduceLeDiff, Nat.reduceEqDiff, Nat.le_refl, and_self, if_true, if_false, List.drop_zero, List.drop_succ_cons, List.take_zero, List.take_succ_cons, List.take_nil, List.drop_nil, true_and, and_true, decide_true, decide_false, Nat.reduceMul, Nat.zero_mul, Nat.one_mul, Nat.mul_one, e4]
  refine asks_ok ⟨rfl, rfl⟩ ⟨rfl, rfl⟩ h4' fun v5 H5 h5 => ?_
  obtain ⟨H5', e5, h5'⟩ := tab_set (k := 20) (d := .ask 3 (fv Fi.specs_mutexDeeds_6) .nilFunc) h5
  simp only [RS, List.cons_append, List.nil_append, Option.isNone_some, Option.isNone_none, Option.isSome_some, Option.isSome_none, Nat.zero_add, Nat.add_zero, Nat.reduceAdd, List.getElem?_cons_zero, List.getElem?_cons_succ, List.length_cons, List.length_nil, List.all_cons, List.all_nil, Bool.and_self, Bool.and_true, Bool.true_and, Option.bind_some, Nat.reduceLeDiff, Nat.reduceEqDiff, Nat.le_refl, and_self, if_true, if_false, List.drop_zero, List.drop_succ_cons, List.take_zero, List.take_succ_cons, List.take_nil, List.drop_nil, true_and, and_true, decide_true, decide_false, Nat.reduceMul, Nat.zero_mul, Nat.one_mul, Nat.mul_one, e5]
  exact hK _ _ h5'
theorem onceDeeds_ok (hs : sat H F) (hK : ∀ m H', sat H' (mapA .u8 m nT dF * F) → K (.map (some m)) H') : DS Tryz.prog Fi.specs_onceDeeds [] H K := by
  refine use_specs_onceDeeds 0 ?_
  unfold sh_specs_onceDeeds
  have h0 := tab_new hs
  simp only [RS, List.cons_append, List.nil_append, Option.isNone_some, Option.isNone_none, Option.isSome_some, Option.isSome_none, Nat.zero_add, Nat.add_zero, Nat.reduceAdd, List.getElem?_cons_zero, List.getElem?_cons_succ, List.length_cons, List.length_nil, List.all_cons, List.all_nil, Bool.and_self, Bool.and_true, Bool.true_and, Option.bind_some, Nat.reduceLeDiff, Nat.reduceEqDiff, Nat.le_refl, and_self, if_true, if_false, List.drop_zero, List.drop_succ_cons, List.take_zero, List.take_succ_cons, List.take_nil, List.drop_nil, true_and, and_true, decide_true, decide_false, Nat.reduceMul, Nat.zero_mul, Nat.one_mul, Nat.mul_one]
  refine asks_ok ⟨rfl, rfl⟩ ⟨rfl, rfl⟩ h0 fun v1 H1 h1 => ?_
  obtain ⟨H1', e1, h1'⟩ := tab_set (k := 33) (d := .ask 3 (fv Fi.specs_onceDeeds_2) (fv Fi.specs_onceDeeds_3)) h1
  simp only [RS, List.cons_append, List.nil_append, Option.isNone_some, Option.isNone_none, Option.isSome_some, Option.isSome_none, Nat.zero_add, Nat.add_zero, Nat.reduceAdd, List.getElem?_cons_zero, List.getElem?_cons_succ, List.length_cons, List.length_nil, List.all_cons, List.all_nil, Bool.and_self, Bool.and_true, Bool.true_and, Option.bind_some, Nat.reduceLeDiff, Nat.reduceEqDiff, Nat.le_refl, and_self, if_true, if_false, List.drop_zero, List.drop_succ_cons, List.take_zero, List.take_succ_cons, List.take_nil, List.drop_nil, true_and, and_true, decide_true, decide_false, Nat.reduceMul, Nat.zero_mul, Nat.one_mul, Nat.mul_one, e1]
  refine asks_ok ⟨rfl, rfl⟩ ⟨rfl, rfl⟩ h1' fun v2 H2 h2 => ?_
  obtain ⟨H2', e2, h2'⟩ := tab_set (k := 34) (d := .ask 3 (fv Fi.specs_onceDeeds_1) (fv Fi.specs_onceDeeds_4)) h2
  simp only [RS, List.cons_append, List.nil_append, Option.isNone_some, Option.isNone_none, Option.isSome_some, Option.isSome_none, Nat.zero_add, Nat.add_zero, Nat.reduceAdd, List.getElem?_cons_zero, List.getElem?_cons_succ, List.length_cons, List.length_nil, List.all_cons, List.all_nil, Bool.and_self, Bool.and_true, Bool.true_and, Option.bind_some, Nat.reduceLeDiff, Nat.reduceEqDiff, Nat.le_refl, and_self, if_true, if_false, List.drop_zero, List.drop_succ_cons, List.take_zero, List.take_succ_cons, List.take_nil, List.drop_nil, true_and, and_true, decide_true, decide_false, Nat.reduceMul, Nat.zero_mul, Nat.one_mul, Nat.mul_one, e2]
  refine asks_ok ⟨rfl, rfl⟩ ⟨rfl, rfl⟩ h2' fun v3 H3 h3 => ?_
  obtain ⟨H3', e3, h3'⟩ := tab_set (k := 35) (d := .ask 3 (fv Fi.specs_onceDeeds_1) (fv Fi.specs_onceDeeds_5)) h3
  simp only [RS, List.cons_append, List.nil_append, Option.isNone_some, Option.isNone_none, Option.isSome_some, Option.isSome_none, Nat.zero_add, Nat.add_zero, Nat.reduceAdd, List.getElem?_cons_zero, List.getElem?_cons_succ, List.length_cons, List.length_nil, List.all_cons, List.all_nil, Bool.and_self, Bool.and_true, Bool.true_and, Option.bind_some, Nat.reduceLeDiff, Nat.reduceEqDiff, Nat.le_refl, and_self, if_true, if_false, List.drop_zero, List.drop_succ_cons, List.take_zero, List.take_succ_cons, List.take_nil, List.drop_nil, true_and, and_true, decide_true, decide_false, Nat.reduceMul, Nat.zero_mul, Nat.one_mul, Nat.mul_one, e3]
  refine asks_ok ⟨rfl, rfl⟩ ⟨rfl, rfl⟩ h3' fun v4 H4 h4 => ?_
  obtain ⟨H4', e4, h4'⟩ := tab_set (k := 36) (d := .ask 3 (fv Fi.specs_onceDeeds_6) .nilFunc) h4
  simp only [RS, List.cons_append, List.nil_append, Option.isNone_some, Option.isNone_none, Option.isSome_some, Option.isSome_none, Nat.zero_add, Nat.add_zero, Nat.reduceAdd, List.getElem?_cons_zero, List.getElem?_cons_succ, List.length_cons, List.length_nil, List.all_cons, List.all_nil, Bool.and_self, Bool.and_true, Bool.true_and, Option.bind_some, Nat.reduceLeDiff, Nat.reduceEqDiff, Nat.le_refl, and_self, if_true, if_false, List.drop_zero, List.drop_succ_cons, List.take_zero, List.take_succ_cons, List.take_nil, List.drop_nil, true_and, and_true, decide_true, decide_false, Nat.reduceMul, Nat.zero_mul, Nat.one_mul, Nat.mul_one, e4]
  refine asks_ok ⟨rfl, rfl⟩ ⟨rfl, rfl⟩ h4' fun v5 H5 h5 => ?_
  obtain ⟨H5', e5, h5'⟩ := tab_set (k := 37) (d := .ask 3 (fv Fi.specs_onceDeeds_7) .nilFunc) h5
  simp only [RS, List.cons_append, List.nil_append, Option.isNone_some, Option.isNone_none, Option.isSome_some, Option.isSome_none, Nat.zero_add, Nat.add_zero, Nat.reduceAdd, List.getElem?_cons_zero, List.getElem?_cons_succ, List.length_cons, List.length_nil, List.all_cons, List.all_nil, Bool.and_self, Bool.and_true, Bool.true_and, Option.bind_some, Nat.reduceLeDiff, Nat.reduceEqDiff, Nat.le_refl, and_self, if_true, if_false, List.drop_zero, List.drop_succ_cons, List.take_zero, List.take_succ_cons, List.take_nil, List.drop_nil, true_and, and_true, decide_true, decide_false, Nat.reduceMul, Nat.zero_mul, Nat.one_mul, Nat.mul_one, e5]
  exact hK _ _ h5'
theorem waitDeeds_ok (hs : sat H F) (hK : ∀ m H', sat H' (mapA .u8 m wT dF * F) → K (.map (some m)) H') : DS Tryz.prog Fi.specs_waitDeeds [] H K := by
  refine use_specs_waitDeeds 0 ?_
  unfold sh_specs_waitDeeds
  have h0 := tab_new hs
  simp only [RS, List.cons_append, List.nil_append, Option.isNone_some, Option.isNone_none, Option.isSome_some, Option.isSome_none, Nat.zero_add, Nat.add_zero, Nat.reduceAdd, List.getElem?_cons_zero, List.getElem?_cons_succ, List.length_cons, List.length_nil, List.all_cons, List.all_nil, Bool.and_self, Bool.and_true, Bool.true_and, Option.bind_some, Nat.reduceLeDiff, Nat.reduceEqDiff, Nat.le_refl, and_self, if_true, if_false, List.drop_zero, List.drop_succ_cons, List.take_zero, List.take_succ_cons, List.take_nil, List.drop_nil, true_and, and_true, decide_true, decide_false, Nat.reduceMul, Nat.zero_mul, Nat.one_mul, Nat.mul_one]
  refine asks_ok ⟨rfl, rfl⟩ ⟨rfl, rfl⟩ h0 fun v1 H1 h1 => ?_
  obtain ⟨H1', e1, h1'⟩ := tab_set (k := 29) (d := .ask 3 (fv Fi.specs_waitDeeds_1) (fv Fi.specs_waitDeeds_2)) h1
  obtain ⟨H2', e2, h2'⟩ := tab_set (k := 30) (d := .pl (fv Fi.specs_gives)) (v := fv Fi.specs_gives) (sat_lift.2 ⟨rfl, h1'⟩)
  obtain ⟨H3', e3, h3'⟩ := tab_set (k := 31) (d := .pl (fv Fi.specs_gives)) (v := fv Fi.specs_gives) (sat_lift.2 ⟨rfl, h2'⟩)
  simp only [RS, List.cons_append, List.nil_append, Option.isNone_some, Option.isNone_none, Option.isSome_some, Option.isSome_none, Nat.zero_add, Nat.add_zero, Nat.reduceAdd, List.getElem?_cons_zero, List.getElem?_cons_succ, List.length_cons, List.length_nil, List.all_cons, List.all_nil, Bool.and_self, Bool.and_true, Bool.true_and, Option.bind_some, Nat.reduceLeDiff, Nat.reduceEqDiff, Nat.le_refl, and_self, if_true, if_false, List.drop_zero, List.drop_succ_cons, List.take_zero, List.take_succ_cons, List.take_nil, List.drop_nil, true_and, and_true, decide_true, decide_false, Nat.reduceMul, Nat.zero_mul, Nat.one_mul, Nat.mul_one, e1, e2, e3]
  refine asks_ok ⟨rfl, rfl⟩ ⟨rfl, rfl⟩ h3' fun v4 H4 h4 => ?_
  obtain ⟨H4', e4, h4'⟩ := tab_set (k := 32) (d := .ask 2 (fv Fi.specs_waitDeeds_3) .nilFunc) h4
  simp only [RS, List.cons_append, List.nil_append, Option.isNone_some, Option.isNone_none, Option.isSome_some, Option.isSome_none, Nat.zero_add, Nat.add_zero, Nat.reduceAdd, List.getElem?_cons_zero, List.getElem?_cons_succ, List.length_cons, List.length_nil, List.all_cons, List.all_nil, Bool.and_self, Bool.and_true, Bool.true_and, Option.bind_some, Nat.reduceLeDiff, Nat.reduceEqDiff, Nat.le_refl, and_self, if_true, if_false, List.drop_zero, List.drop_succ_cons, List.take_zero, List.take_succ_cons, List.take_nil, List.drop_nil, true_and, and_true, decide_true, decide_false, Nat.reduceMul, Nat.zero_mul, Nat.one_mul, Nat.mul_one, e4]
  exact hK _ _ h4'
theorem lockDeeds_ok (hs : sat H F) (hK : ∀ m H', sat H' (mapA .u8 m lT dF * F) → K (.map (some m)) H') : DS Tryz.prog Fi.specs_lockDeeds [] H K := by
  refine use_specs_lockDeeds 0 ?_
  unfold sh_specs_lockDeeds
  have h0 := tab_new hs
  simp only [RS, List.cons_append, List.nil_append, Option.isNone_some, Option.isNone_none, Option.isSome_some, Option.isSome_none, Nat.zero_add, Nat.add_zero, Nat.reduceAdd, List.getElem?_cons_zero, List.getElem?_cons_succ, List.length_cons, List.length_nil, List.all_cons, List.all_nil, Bool.and_self, Bool.and_true, Bool.true_and, Option.bind_some, Nat.reduceLeDiff, Nat.reduceEqDiff, Nat.le_refl, and_self, if_true, if_false, List.drop_zero, List.drop_succ_cons, List.take_zero, List.take_succ_cons, List.take_nil, List.drop_nil, true_and, and_true, decide_true, decide_false, Nat.reduceMul, Nat.zero_mul, Nat.one_mul, Nat.mul_one]
  refine on_ok ⟨rfl, rfl⟩ ⟨rfl, rfl⟩ h0 fun v1 H1 h1 => ?_
  obtain ⟨H1', e1, h1'⟩ := tab_set (k := 21) h1
  simp only [RS, List.cons_append, List.nil_append, Option.isNone_some, Option.isNone_none, Option.isSome_some, Option.isSome_none, Nat.zero_add, Nat.add_zero, Nat.reduceAdd, List.getElem?_cons_zero, List.getElem?_cons_succ, List.length_cons, List.length_nil, List.all_cons, List.all_nil, Bool.and_self, Bool.and_true, Bool.true_and, Option.bind_some, Nat.reduceLeDiff, Nat.reduceEqDiff, Nat.le_refl, and_self, if_true, if_false, List.drop_zero, List.drop_succ_cons, List.take_zero, List.take_succ_cons, List.take_nil, List.drop_nil, true_and, and_true, decide_true, decide_false, Nat.reduceMul, Nat.zero_mul, Nat.one_mul, Nat.mul_one, e1]
  refine on_ok ⟨rfl, rfl⟩ ⟨rfl, rfl⟩ h1' fun v2 H2 h2 => ?_
  obtain ⟨H2', e2, h2'⟩ := tab_set (k := 22) h2
  simp only [RS, List.cons_append, List.nil_append, Option.isNone_some, Option.isNone_none, Option.isSome_some, Option.isSome_none, Nat.zero_add, Nat.add_zero, Nat.reduceAdd, List.getElem?_cons_zero, List.getElem?_cons_succ, List.length_cons, List.length_nil, List.all_cons, List.all_nil, Bool.and_self, Bool.and_true, Bool.true_and, Option.bind_some, Nat.reduceLeDiff, Nat.reduceEqDiff, Nat.le_refl, and_self, if_true, if_false, List.drop_zero, List.drop_succ_cons, List.take_zero, List.take_succ_cons, List.take_nil, List.drop_nil, true_and, and_true, decide_true, decide_false, Nat.reduceMul, Nat.zero_mul, Nat.one_mul, Nat.mul_one, e2]
  refine on_ok ⟨rfl, rfl⟩ ⟨rfl, rfl⟩ h2' fun v3 H3 h3 => ?_
  obtain ⟨H3', e3, h3'⟩ := tab_set (k := 23) h3
  simp only [RS, List.cons_append, List.nil_append, Option.isNone_some, Option.isNone_none, Option.isSome_some, Option.isSome_none, Nat.zero_add, Nat.add_zero, Nat.reduceAdd, List.getElem?_cons_zero, List.getElem?_cons_succ, List.length_cons, List.length_nil, List.all_cons, List.all_nil, Bool.and_self, Bool.and_true, Bool.true_and, Option.bind_some, Nat.reduceLeDiff, Nat.reduceEqDiff, Nat.le_refl, and_self, if_true, if_false, List.drop_zero, List.drop_succ_cons, List.take_zero, List.take_succ_cons, List.take_nil, List.drop_nil, true_and, and_true, decide_true, decide_false, Nat.reduceMul, Nat.zero_mul, Nat.one_mul, Nat.mul_one, e3]
  refine on_ok ⟨rfl, rfl⟩ ⟨rfl, rfl⟩ h3' fun v4 H4 h4 => ?_
  obtain ⟨H4', e4, h4'⟩ := tab_set (k := 24) h4
  simp only [RS, List.cons_append, List.nil_append, Option.isNone_some, Option.isNone_none, Option.isSome_some, Option.isSome_none, Nat.zero_add, Nat.add_zero, Nat.reduceAdd, List.getElem?_cons_zero, List.getElem?_cons_succ, List.length_cons, List.length_nil, List.all_cons, List.all_nil, Bool.and_self, Bool.and_true, Bool.true_and, Option.bind_some, Nat.reduceLeDiff, Nat.reduceEqDiff, Nat.le_refl, and_self, if_true, if_false, List.drop_zero, List.drop_succ_cons, List.take_zero, List.take_succ_cons, List.take_nil, List.drop_nil, true_and, and_true, decide_true, decide_false, Nat.reduceMul, Nat.zero_mul, Nat.one_mul, Nat.mul_one, e4]
  refine on_ok ⟨rfl, rfl⟩ ⟨rfl, rfl⟩ h4' fun v5 H5 h5 => ?_
  obtain ⟨H5', e5, h5'⟩ := tab_set (k := 25) h5
  simp only [RS, List.cons_append, List.nil_append, Option.isNone_some, Option.isNone_none, Option.isSome_some, Option.isSome_none, Nat.zero_add, Nat.add_zero, Nat.reduceAdd, List.getElem?_cons_zero, List.getElem?_cons_succ, List.length_cons, List.length_nil, List.all_cons, List.all_nil, Bool.and_self, Bool.and_true, Bool.true_and, Option.bind_some, Nat.reduceLeDiff, Nat.reduceEqDiff, Nat.le_refl, and_self, if_true, if_false, List.drop_zero, List.drop_succ_cons, List.take_zero, List.take_succ_cons, List.take_nil, List.drop_nil, true_and, and_true, decide_true, decide_false, Nat.reduceMul, Nat.zero_mul, Nat.one_mul, Nat.mul_one, e5]
  refine on_ok ⟨rfl, rfl⟩ ⟨rfl, rfl⟩ h5' fun v6 H6 h6 => ?_
  obtain ⟨H6', e6, h6'⟩ := tab_set (k := 26) h6
  simp only [RS, List.cons_append, List.nil_append, Option.isNone_some, Option.isNone_none, Option.isSome_some, Option.isSome_none, Nat.zero_add, Nat.add_zero, Nat.reduceAdd, List.getElem?_cons_zero, List.getElem?_cons_succ, List.length_cons, List.length_nil, List.all_cons, List.all_nil, Bool.and_self, Bool.and_true, Bool.true_and, Option.bind_some, Nat.reduceLeDiff, Nat.reduceEqDiff, Nat.le_refl, and_self, if_true, if_false, List.drop_zero, List.drop_succ_cons, List.take_zero, List.take_succ_cons, List.take_nil, List.drop_nil, true_and, and_true, decide_true, decide_false, Nat.reduceMul, Nat.zero_mul, Nat.one_mul, Nat.mul_one, e6]
  refine on_ok ⟨rfl, rfl⟩ ⟨rfl, rfl⟩ h6' fun v7 H7 h7 => ?_
  obtain ⟨H7', e7, h7'⟩ := tab_set (k := 27) h7
  simp only [RS, List.cons_append, List.nil_append, Option.isNone_some, Option.isNone_none, Option.isSome_some, Option.isSome_none, Nat.zero_add, Nat.add_zero, Nat.reduceAdd, List.getElem?_cons_zero, List.getElem?_cons_succ, List.length_cons, List.length_nil, List.all_cons, List.all_nil, Bool.and_self, Bool.and_true, Bool.true_and, Option.bind_some, Nat.reduceLeDiff, Nat.reduceEqDiff, Nat.le_refl, and_self, if_true, if_false, List.drop_zero, List.drop_succ_cons, List.take_zero, List.take_succ_cons, List.take_nil, List.drop_nil, true_and, and_true, decide_true, decide_false, Nat.reduceMul, Nat.zero_mul, Nat.one_mul, Nat.mul_one, e7]
  refine on_ok ⟨rfl, rfl⟩ ⟨rfl, rfl⟩ h7' fun v8 H8 h8 => ?_
  obtain ⟨H8', e8, h8'⟩ := tab_set (k := 28) h8
  simp only [RS, List.cons_append, List.nil_append, Option.isNone_some, Option.isNone_none, Option.isSome_some, Option.isSome_none, Nat.zero_add, Nat.add_zero, Nat.reduceAdd, List.getElem?_cons_zero, List.getElem?_cons_succ, List.length_cons, List.length_nil, List.all_cons, List.all_nil, Bool.and_self, Bool.and_true, Bool.true_and, Option.bind_some, Nat.reduceLeDiff, Nat.reduceEqDiff, Nat.le_refl, and_self, if_true, if_false, List.drop_zero, List.drop_succ_cons, List.take_zero, List.take_succ_cons, List.take_nil, List.drop_nil, true_and, and_true, decide_true, decide_false, Nat.reduceMul, Nat.zero_mul, Nat.one_mul, Nat.mul_one, e8]
  exact hK _ _ h8'
end
end Go.Proofs.YtiolnpeniklhiaaGreatDoor
