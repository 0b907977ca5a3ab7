/- The abstract system's deeds: for each kind of note, what may be, and what is so then, as closures.
   Conditions: what stands in memory, as each states it. -/
import Derived.Test.YtiolnpeniklhiaaGreatDoorSpec5
namespace Go.Proofs.YtiolnpeniklhiaaGreatDoor
open Go Go.Ab
set_option linter.all false
set_option maxRecDepth 100000

theorem binT_neq_fn (c : Bool) (f : Fn) (x y : Array Value) : binT .neq (some (.one .fn)) c (.func f x y) .nilFunc = some (.bool true) := id rfl
theorem binT_neq_fn0 (c : Bool) : binT .neq (some (.one .fn)) c .nilFunc .nilFunc = some (.bool false) := id rfl

/-- A note. -/
structure NV where
  step : Int
  thread : Int
  kind : Nat
  addr : Int
  other : Int
  to : Int
  value : Int
abbrev NV.row (n : NV) : List Value := [.int .i64 n.step, .int .i64 n.thread, .int .u8 n.kind, .int .u32 n.addr, .int .i64 n.other, .int .u32 n.to, .int .u64 n.value]
abbrev NV.val (n : NV) : Value := .agg ⟨n.row⟩
def NV.oth (n : NV) : Bool := n.kind == 2 || n.kind == 3 || n.kind == 4 || n.kind == 18
structure NV.ok (n : NV) : Prop where
  th : 0 ≤ n.thread ∧ n.thread < 64
  ot : n.oth = true → 0 ≤ n.other ∧ n.other < 64
open Classical in
noncomputable def mayB (k : Nat) (s : SS) (n : NV) : Bool :=
  match k with
  | 1 => !decide (∃ a, n.thread ∈ s.q a)
  | 2 => hd1 (s.q n.addr) == n.other
  | 3 => decide (n.other ∈ s.q n.addr)
  | 4 => hd1 (s.q n.addr) == n.other
  | 5 => decide (n.thread ∈ s.q n.addr)
  | 16 => s.ow n.addr == 0
  | 17 => s.ow n.addr == n.thread + 1
  | 18 => s.ow n.addr == n.thread + 1
  | 19 => s.ow n.addr != 0 || !(s.lk n.addr).idle
  | 20 => !(s.ow n.addr == n.thread + 1)
  | 21 => lmay 21 (s.lk n.addr) n.thread
  | 22 => lmay 22 (s.lk n.addr) n.thread
  | 23 => lmay 23 (s.lk n.addr) n.thread
  | 24 => lmay 24 (s.lk n.addr) n.thread
  | 25 => lmay 25 (s.lk n.addr) n.thread
  | 26 => lmay 26 (s.lk n.addr) n.thread
  | 27 => lmay 27 (s.lk n.addr) n.thread
  | 28 => lmay 28 (s.lk n.addr) n.thread
  | 29 => (s.wa n.thread).isNone
  | 32 => ((s.q n.addr).length : Int) == 0
  | 33 => (s.on n.addr).by_ == 0 && !(s.on n.addr).dn
  | 34 => (s.on n.addr).by_ == n.thread + 1
  | 35 => (s.on n.addr).by_ == n.thread + 1
  | 36 => (s.on n.addr).dn
  | 37 => (s.on n.addr).sk
  | _ => false
def thenS (k : Nat) (s : SS) (n : NV) : SS :=
  match k with
  | 1 => { s with q := upd s.q n.addr (s.q n.addr ++ [n.thread]) }
  | 2 => { s with q := upd s.q n.addr (wo n.other (s.q n.addr)) }
  | 3 => { s with q := upd s.q n.addr (wo n.other (s.q n.addr)) }
  | 4 => { s with q := upd (upd s.q n.addr (wo n.other (s.q n.addr))) n.to (upd s.q n.addr (wo n.other (s.q n.addr)) n.to ++ [n.other]) }
  | 5 => { s with q := upd s.q n.addr (wo n.thread (s.q n.addr)) }
  | 16 => { s with ow := upd s.ow n.addr (n.thread + 1) }
  | 17 => { s with ow := upd s.ow n.addr 0 }
  | 18 => { s with ow := upd s.ow n.addr (n.other + 1) }
  | 21 => { s with lk := upd s.lk n.addr (lthen 21 (s.lk n.addr) n.thread) }
  | 22 => { s with lk := upd s.lk n.addr (lthen 22 (s.lk n.addr) n.thread) }
  | 23 => { s with lk := upd s.lk n.addr (lthen 23 (s.lk n.addr) n.thread) }
  | 24 => { s with lk := upd s.lk n.addr (lthen 24 (s.lk n.addr) n.thread) }
  | 25 => { s with lk := upd s.lk n.addr (lthen 25 (s.lk n.addr) n.thread) }
  | 26 => { s with lk := upd s.lk n.addr (lthen 26 (s.lk n.addr) n.thread) }
  | 27 => { s with lk := upd s.lk n.addr (lthen 27 (s.lk n.addr) n.thread) }
  | 28 => { s with lk := upd s.lk n.addr (lthen 28 (s.lk n.addr) n.thread) }
  | 29 => { s with wa := upd s.wa n.thread (some n.addr) }
  | 30 => { s with wa := upd s.wa n.thread none }
  | 31 => { s with wa := upd s.wa n.thread none }
  | 33 => { s with on := upd s.on n.addr ⟨n.thread + 1, false, false⟩ }
  | 34 => { s with on := upd s.on n.addr ⟨0, true, false⟩ }
  | 35 => { s with on := upd s.on n.addr ⟨0, false, true⟩ }
  | _ => s
/-- What a closure that asks does. -/
def MayP (A : SL) (k : Nat) (m : Value) : Prop := ∀ (p : Nat) (s : SS) (n : NV) (H : AH) (F : SL) (K : KV), s.ok → n.ok → n.kind = k → sat H (StR p s * (A * F)) → (∀ H', sat H' (StR p s * (A * F)) → K (.bool (mayB k s n)) H') → callV (DS Tryz.prog) m [ptr p, n.val] H K
def ThenP (A : SL) (k : Nat) (m : Value) : Prop := ∀ (p : Nat) (s : SS) (n : NV) (H : AH) (F : SL) (K : KV), s.ok → n.ok → n.kind = k → mayB k s n = true → sat H (StR p s * (A * F)) → (∀ H', sat H' (StR p (thenS k s n) * (A * F)) → K (.tuple ⟨[]⟩) H') → callV (DS Tryz.prog) m [ptr p, n.val] H K
theorem note_new {H : AH} {n : NV} {p : Nat} {s : SS} {G : SL} (h : sat H (StR p s * G)) : sat (H.new (.cells n.row Ty.notes_Note .fix)) (StR p s * (pts H.nx (.cells n.row Ty.notes_Note .fix) * G)) ∧ (H.new (.cells n.row Ty.notes_Note .fix)).get H.nx = some (.cells n.row Ty.notes_Note .fix) := by
  have := sat_new (.cells n.row Ty.notes_Note .fix) h
  exact ⟨sat_of_eq this (by ac_rfl), (sat_get this).1⟩
theorem note_get {H : AH} {n : NV} {m p : Nat} {s : SS} {G : SL} (h : sat H (StR p s * (pts m (.cells n.row Ty.notes_Note .fix) * G))) : H.get m = some (.cells n.row Ty.notes_Note .fix) := (sat_get (sat_sub h)).1
theorem note_drop {H : AH} {n : NV} {m p : Nat} {s : SS} {G : SL} (h : sat H (StR p s * (pts m (.cells n.row Ty.notes_Note .fix) * G))) : sat H (StR p s * G) := sat_sub (A := pts m (.cells n.row Ty.notes_Note .fix)) (sat_of_eq h (by ac_rfl))

section
variable {A : SL}
/-! ### queues -/
theorem m1 : MayP A 1 (fv Fi.specs_queueDeeds_1) := by
  intro p s n H F K ho hn hk hs hK
  simp only [RS, List.cons_append, List.nil_append, Option.isNone_some, Option.isNone_none, Option.isSome_some, Option.isSome_none, Nat.zero_add, Nat.add_zero, Nat.reduceAdd, List.getElem?_cons_zero, List.getElem?_cons_succ, List.length_cons, List.length_nil, List.all_cons, List.all_nil, Bool.and_self, Bool.and_true, Bool.true_and, Option.bind_some, Nat.reduceLeDiff, Nat.reduceEqDiff, Nat.le_refl, and_self, if_true, if_false, List.drop_zero, List.drop_succ_cons, List.take_zero, List.take_succ_cons, List.take_nil, List.drop_nil, true_and, and_true, decide_true, decide_false, Nat.reduceMul, Nat.zero_mul, Nat.one_mul, Nat.mul_one]
  refine use_specs_queueDeeds_1 0 ?_
  unfold sh_specs_queueDeeds_1
  obtain ⟨h, g⟩ := note_new (n := n) hs
  simp only [RS, List.cons_append, List.nil_append, Option.isNone_some, Option.isNone_none, Option.isSome_some, Option.isSome_none, Nat.zero_add, Nat.add_zero, Nat.reduceAdd, List.getElem?_cons_zero, List.getElem?_cons_succ, List.length_cons, List.length_nil, List.all_cons, List.all_nil, Bool.and_self, Bool.and_true, Bool.true_and, Option.bind_some, Nat.reduceLeDiff, Nat.reduceEqDiff, Nat.le_refl, and_self, if_true, if_false, List.drop_zero, List.drop_succ_cons, List.take_zero, List.take_succ_cons, List.take_nil, List.drop_nil, true_and, and_true, decide_true, decide_false, Nat.reduceMul, Nat.zero_mul, Nat.one_mul, Nat.mul_one, g]
  refine anywhere_ok ho h fun H' h' => ?_
  simp only [RS, List.cons_append, List.nil_append, Option.isNone_some, Option.isNone_none, Option.isSome_some, Option.isSome_none, Nat.zero_add, Nat.add_zero, Nat.reduceAdd, List.getElem?_cons_zero, List.getElem?_cons_succ, List.length_cons, List.length_nil, List.all_cons, List.all_nil, Bool.and_self, Bool.and_true, Bool.true_and, Option.bind_some, Nat.reduceLeDiff, Nat.reduceEqDiff, Nat.le_refl, and_self, if_true, if_false, List.drop_zero, List.drop_succ_cons, List.take_zero, List.take_succ_cons, List.take_nil, List.drop_nil, true_and, and_true, decide_true, decide_false, Nat.reduceMul, Nat.zero_mul, Nat.one_mul, Nat.mul_one]
  exact hK _ (note_drop h')
theorem t1 : ThenP A 1 (fv Fi.specs_queueDeeds_2) := by
  intro p s n H F K ho hn hk hm hs hK
  simp only [RS, List.cons_append, List.nil_append, Option.isNone_some, Option.isNone_none, Option.isSome_some, Option.isSome_none, Nat.zero_add, Nat.add_zero, Nat.reduceAdd, List.getElem?_cons_zero, List.getElem?_cons_succ, List.length_cons, List.length_nil, List.all_cons, List.all_nil, Bool.and_self, Bool.and_true, Bool.true_and, Option.bind_some, Nat.reduceLeDiff, Nat.reduceEqDiff, Nat.le_refl, and_self, if_true, if_false, List.drop_zero, List.drop_succ_cons, List.take_zero, List.take_succ_cons, List.take_nil, List.drop_nil, true_and, and_true, decide_true, decide_false, Nat.reduceMul, Nat.zero_mul, Nat.one_mul, Nat.mul_one]
  refine use_specs_queueDeeds_2 0 ?_
  unfold sh_specs_queueDeeds_2
  obtain ⟨h, g⟩ := note_new (n := n) hs
  simp only [RS, List.cons_append, List.nil_append, Option.isNone_some, Option.isNone_none, Option.isSome_some, Option.isSome_none, Nat.zero_add, Nat.add_zero, Nat.reduceAdd, List.getElem?_cons_zero, List.getElem?_cons_succ, List.length_cons, List.length_nil, List.all_cons, List.all_nil, Bool.and_self, Bool.and_true, Bool.true_and, Option.bind_some, Nat.reduceLeDiff, Nat.reduceEqDiff, Nat.le_refl, and_self, if_true, if_false, List.drop_zero, List.drop_succ_cons, List.take_zero, List.take_succ_cons, List.take_nil, List.drop_nil, true_and, and_true, decide_true, decide_false, Nat.reduceMul, Nat.zero_mul, Nat.one_mul, Nat.mul_one, g]
  refine in_ok ho h fun H' h' => ?_
  exact hK _ (note_drop h')
theorem m2 : MayP A 2 (fv Fi.specs_queueDeeds_3) := by
  intro p s n H F K ho hn hk hs hK
  simp only [RS, List.cons_append, List.nil_append, Option.isNone_some, Option.isNone_none, Option.isSome_some, Option.isSome_none, Nat.zero_add, Nat.add_zero, Nat.reduceAdd, List.getElem?_cons_zero, List.getElem?_cons_succ, List.length_cons, List.length_nil, List.all_cons, List.all_nil, Bool.and_self, Bool.and_true, Bool.true_and, Option.bind_some, Nat.reduceLeDiff, Nat.reduceEqDiff, Nat.le_refl, and_self, if_true, if_false, List.drop_zero, List.drop_succ_cons, List.take_zero, List.take_succ_cons, List.take_nil, List.drop_nil, true_and, and_true, decide_true, decide_false, Nat.reduceMul, Nat.zero_mul, Nat.one_mul, Nat.mul_one]
  refine use_specs_queueDeeds_3 0 ?_
  unfold sh_specs_queueDeeds_3
  obtain ⟨h, g⟩ := note_new (n := n) hs
  simp only [RS, List.cons_append, List.nil_append, Option.isNone_some, Option.isNone_none, Option.isSome_some, Option.isSome_none, Nat.zero_add, Nat.add_zero, Nat.reduceAdd, List.getElem?_cons_zero, List.getElem?_cons_succ, List.length_cons, List.length_nil, List.all_cons, List.all_nil, Bool.and_self, Bool.and_true, Bool.true_and, Option.bind_some, Nat.reduceLeDiff, Nat.reduceEqDiff, Nat.le_refl, and_self, if_true, if_false, List.drop_zero, List.drop_succ_cons, List.take_zero, List.take_succ_cons, List.take_nil, List.drop_nil, true_and, and_true, decide_true, decide_false, Nat.reduceMul, Nat.zero_mul, Nat.one_mul, Nat.mul_one, g]
  refine first_ok ho h ?_
  simp only [RS, List.cons_append, List.nil_append, Option.isNone_some, Option.isNone_none, Option.isSome_some, Option.isSome_none, Nat.zero_add, Nat.add_zero, Nat.reduceAdd, List.getElem?_cons_zero, List.getElem?_cons_succ, List.length_cons, List.length_nil, List.all_cons, List.all_nil, Bool.and_self, Bool.and_true, Bool.true_and, Option.bind_some, Nat.reduceLeDiff, Nat.reduceEqDiff, Nat.le_refl, and_self, if_true, if_false, List.drop_zero, List.drop_succ_cons, List.take_zero, List.take_succ_cons, List.take_nil, List.drop_nil, true_and, and_true, decide_true, decide_false, Nat.reduceMul, Nat.zero_mul, Nat.one_mul, Nat.mul_one, g, same_refl]
  exact hK _ (note_drop h)
theorem t2 : ThenP A 2 (fv Fi.specs_queueDeeds_4) := by
  intro p s n H F K ho hn hk hm hs hK
  simp only [RS, List.cons_append, List.nil_append, Option.isNone_some, Option.isNone_none, Option.isSome_some, Option.isSome_none, Nat.zero_add, Nat.add_zero, Nat.reduceAdd, List.getElem?_cons_zero, List.getElem?_cons_succ, List.length_cons, List.length_nil, List.all_cons, List.all_nil, Bool.and_self, Bool.and_true, Bool.true_and, Option.bind_some, Nat.reduceLeDiff, Nat.reduceEqDiff, Nat.le_refl, and_self, if_true, if_false, List.drop_zero, List.drop_succ_cons, List.take_zero, List.take_succ_cons, List.take_nil, List.drop_nil, true_and, and_true, decide_true, decide_false, Nat.reduceMul, Nat.zero_mul, Nat.one_mul, Nat.mul_one]
  refine use_specs_queueDeeds_4 0 ?_
  unfold sh_specs_queueDeeds_4
  obtain ⟨h, g⟩ := note_new (n := n) hs
  simp only [RS, List.cons_append, List.nil_append, Option.isNone_some, Option.isNone_none, Option.isSome_some, Option.isSome_none, Nat.zero_add, Nat.add_zero, Nat.reduceAdd, List.getElem?_cons_zero, List.getElem?_cons_succ, List.length_cons, List.length_nil, List.all_cons, List.all_nil, Bool.and_self, Bool.and_true, Bool.true_and, Option.bind_some, Nat.reduceLeDiff, Nat.reduceEqDiff, Nat.le_refl, and_self, if_true, if_false, List.drop_zero, List.drop_succ_cons, List.take_zero, List.take_succ_cons, List.take_nil, List.drop_nil, true_and, and_true, decide_true, decide_false, Nat.reduceMul, Nat.zero_mul, Nat.one_mul, Nat.mul_one, g]
  refine out_ok ho h fun H' h' => ?_
  exact hK _ (note_drop h')
theorem m3 : MayP A 3 (fv Fi.specs_queueDeeds_5) := by
  intro p s n H F K ho hn hk hs hK
  simp only [RS, List.cons_append, List.nil_append, Option.isNone_some, Option.isNone_none, Option.isSome_some, Option.isSome_none, Nat.zero_add, Nat.add_zero, Nat.reduceAdd, List.getElem?_cons_zero, List.getElem?_cons_succ, List.length_cons, List.length_nil, List.all_cons, List.all_nil, Bool.and_self, Bool.and_true, Bool.true_and, Option.bind_some, Nat.reduceLeDiff, Nat.reduceEqDiff, Nat.le_refl, and_self, if_true, if_false, List.drop_zero, List.drop_succ_cons, List.take_zero, List.take_succ_cons, List.take_nil, List.drop_nil, true_and, and_true, decide_true, decide_false, Nat.reduceMul, Nat.zero_mul, Nat.one_mul, Nat.mul_one]
  refine use_specs_queueDeeds_5 0 ?_
  unfold sh_specs_queueDeeds_5
  obtain ⟨h, g⟩ := note_new (n := n) hs
  simp only [RS, List.cons_append, List.nil_append, Option.isNone_some, Option.isNone_none, Option.isSome_some, Option.isSome_none, Nat.zero_add, Nat.add_zero, Nat.reduceAdd, List.getElem?_cons_zero, List.getElem?_cons_succ, List.length_cons, List.length_nil, List.all_cons, List.all_nil, Bool.and_self, Bool.and_true, Bool.true_and, Option.bind_some, Nat.reduceLeDiff, Nat.reduceEqDiff, Nat.le_refl, and_self, if_true, if_false, List.drop_zero, List.drop_succ_cons, List.take_zero, List.take_succ_cons, List.take_nil, List.drop_nil, true_and, and_true, decide_true, decide_false, Nat.reduceMul, Nat.zero_mul, Nat.one_mul, Nat.mul_one, g]
  refine queued_ok ho h ?_
  exact hK _ (note_drop h)
theorem t3 : ThenP A 3 (fv Fi.specs_queueDeeds_6) := by
  intro p s n H F K ho hn hk hm hs hK
  simp only [RS, List.cons_append, List.nil_append, Option.isNone_some, Option.isNone_none, Option.isSome_some, Option.isSome_none, Nat.zero_add, Nat.add_zero, Nat.reduceAdd, List.getElem?_cons_zero, List.getElem?_cons_succ, List.length_cons, List.length_nil, List.all_cons, List.all_nil, Bool.and_self, Bool.and_true, Bool.true_and, Option.bind_some, Nat.reduceLeDiff, Nat.reduceEqDiff, Nat.le_refl, and_self, if_true, if_false, List.drop_zero, List.drop_succ_cons, List.take_zero, List.take_succ_cons, List.take_nil, List.drop_nil, true_and, and_true, decide_true, decide_false, Nat.reduceMul, Nat.zero_mul, Nat.one_mul, Nat.mul_one]
  refine use_specs_queueDeeds_6 0 ?_
  unfold sh_specs_queueDeeds_6
  obtain ⟨h, g⟩ := note_new (n := n) hs
  simp only [RS, List.cons_append, List.nil_append, Option.isNone_some, Option.isNone_none, Option.isSome_some, Option.isSome_none, Nat.zero_add, Nat.add_zero, Nat.reduceAdd, List.getElem?_cons_zero, List.getElem?_cons_succ, List.length_cons, List.length_nil, List.all_cons, List.all_nil, Bool.and_self, Bool.and_true, Bool.true_and, Option.bind_some, Nat.reduceLeDiff, Nat.reduceEqDiff, Nat.le_refl, and_self, if_true, if_false, List.drop_zero, List.drop_succ_cons, List.take_zero, List.take_succ_cons, List.take_nil, List.drop_nil, true_and, and_true, decide_true, decide_false, Nat.reduceMul, Nat.zero_mul, Nat.one_mul, Nat.mul_one, g]
  refine out_ok ho h fun H' h' => ?_
  exact hK _ (note_drop h')
theorem m4 : MayP A 4 (fv Fi.specs_queueDeeds_7) := by
  intro p s n H F K ho hn hk hs hK
  simp only [RS, List.cons_append, List.nil_append, Option.isNone_some, Option.isNone_none, Option.isSome_some, Option.isSome_none, Nat.zero_add, Nat.add_zero, Nat.reduceAdd, List.getElem?_cons_zero, List.getElem?_cons_succ, List.length_cons, List.length_nil, List.all_cons, List.all_nil, Bool.and_self, Bool.and_true, Bool.true_and, Option.bind_some, Nat.reduceLeDiff, Nat.reduceEqDiff, Nat.le_refl, and_self, if_true, if_false, List.drop_zero, List.drop_succ_cons, List.take_zero, List.take_succ_cons, List.take_nil, List.drop_nil, true_and, and_true, decide_true, decide_false, Nat.reduceMul, Nat.zero_mul, Nat.one_mul, Nat.mul_one]
  refine use_specs_queueDeeds_7 0 ?_
  unfold sh_specs_queueDeeds_7
  obtain ⟨h, g⟩ := note_new (n := n) hs
  simp only [RS, List.cons_append, List.nil_append, Option.isNone_some, Option.isNone_none, Option.isSome_some, Option.isSome_none, Nat.zero_add, Nat.add_zero, Nat.reduceAdd, List.getElem?_cons_zero, List.getElem?_cons_succ, List.length_cons, List.length_nil, List.all_cons, List.all_nil, Bool.and_self, Bool.and_true, Bool.true_and, Option.bind_some, Nat.reduceLeDiff, Nat.reduceEqDiff, Nat.le_refl, and_self, if_true, if_false, List.drop_zero, List.drop_succ_cons, List.take_zero, List.take_succ_cons, List.take_nil, List.drop_nil, true_and, and_true, decide_true, decide_false, Nat.reduceMul, Nat.zero_mul, Nat.one_mul, Nat.mul_one, g]
  refine first_ok ho h ?_
  simp only [RS, List.cons_append, List.nil_append, Option.isNone_some, Option.isNone_none, Option.isSome_some, Option.isSome_none, Nat.zero_add, Nat.add_zero, Nat.reduceAdd, List.getElem?_cons_zero, List.getElem?_cons_succ, List.length_cons, List.length_nil, List.all_cons, List.all_nil, Bool.and_self, Bool.and_true, Bool.true_and, Option.bind_some, Nat.reduceLeDiff, Nat.reduceEqDiff, Nat.le_refl, and_self, if_true, if_false, List.drop_zero, List.drop_succ_cons, List.take_zero, List.take_succ_cons, List.take_nil, List.drop_nil, true_and, and_true, decide_true, decide_false, Nat.reduceMul, Nat.zero_mul, Nat.one_mul, Nat.mul_one, g, same_refl]
  exact hK _ (note_drop h)
theorem mem_wo {t x : Int} {xs : List Int} : x ∈ wo t xs ↔ x ∈ xs ∧ x ≠ t := by
  unfold wo; rw [List.mem_filter]; simp
theorem ok_out {s : SS} (ho : s.ok) (a t : Int) : ({ s with q := upd s.q a (wo t (s.q a)) } : SS).ok := by
  have hsub : ∀ b x, x ∈ upd s.q a (wo t (s.q a)) b → x ∈ s.q b := by
    intro b x hx
    by_cases hb : b = a
    · subst hb; rw [upd_self, mem_wo] at hx; exact hx.1
    · rw [upd_ne _ _ hb] at hx; exact hx
  refine ⟨fun b x hx => ho.qt b x (hsub b x hx), fun b => ?_, fun b c x hx hy => ho.qu b c x (hsub b x hx) (hsub c x hy), ho.ow, ho.lk, ho.on⟩
  show (upd s.q a (wo t (s.q a)) b).Nodup
  by_cases hb : b = a
  · subst hb; rw [upd_self]; exact (ho.qn b).sublist List.filter_sublist
  · rw [upd_ne _ _ hb]; exact ho.qn b
theorem t4 : ThenP A 4 (fv Fi.specs_queueDeeds_8) := by
  intro p s n H F K ho hn hk hm hs hK
  simp only [RS, List.cons_append, List.nil_append, Option.isNone_some, Option.isNone_none, Option.isSome_some, Option.isSome_none, Nat.zero_add, Nat.add_zero, Nat.reduceAdd, List.getElem?_cons_zero, List.getElem?_cons_succ, List.length_cons, List.length_nil, List.all_cons, List.all_nil, Bool.and_self, Bool.and_true, Bool.true_and, Option.bind_some, Nat.reduceLeDiff, Nat.reduceEqDiff, Nat.le_refl, and_self, if_true, if_false, List.drop_zero, List.drop_succ_cons, List.take_zero, List.take_succ_cons, List.take_nil, List.drop_nil, true_and, and_true, decide_true, decide_false, Nat.reduceMul, Nat.zero_mul, Nat.one_mul, Nat.mul_one]
  refine use_specs_queueDeeds_8 0 ?_
  unfold sh_specs_queueDeeds_8
  obtain ⟨h, g⟩ := note_new (n := n) hs
  simp only [RS, List.cons_append, List.nil_append, Option.isNone_some, Option.isNone_none, Option.isSome_some, Option.isSome_none, Nat.zero_add, Nat.add_zero, Nat.reduceAdd, List.getElem?_cons_zero, List.getElem?_cons_succ, List.length_cons, List.length_nil, List.all_cons, List.all_nil, Bool.and_self, Bool.and_true, Bool.true_and, Option.bind_some, Nat.reduceLeDiff, Nat.reduceEqDiff, Nat.le_refl, and_self, if_true, if_false, List.drop_zero, List.drop_succ_cons, List.take_zero, List.take_succ_cons, List.take_nil, List.drop_nil, true_and, and_true, decide_true, decide_false, Nat.reduceMul, Nat.zero_mul, Nat.one_mul, Nat.mul_one, g]
  refine out_ok ho h fun H' h' => ?_
  have g2 := note_get h'
  simp only [RS, List.cons_append, List.nil_append, Option.isNone_some, Option.isNone_none, Option.isSome_some, Option.isSome_none, Nat.zero_add, Nat.add_zero, Nat.reduceAdd, List.getElem?_cons_zero, List.getElem?_cons_succ, List.length_cons, List.length_nil, List.all_cons, List.all_nil, Bool.and_self, Bool.and_true, Bool.true_and, Option.bind_some, Nat.reduceLeDiff, Nat.reduceEqDiff, Nat.le_refl, and_self, if_true, if_false, List.drop_zero, List.drop_succ_cons, List.take_zero, List.take_succ_cons, List.take_nil, List.drop_nil, true_and, and_true, decide_true, decide_false, Nat.reduceMul, Nat.zero_mul, Nat.one_mul, Nat.mul_one, g2]
  refine in_ok (ok_out ho _ _) h' fun H2 h2 => ?_
  exact hK _ (note_drop h2)
theorem m5 : MayP A 5 (fv Fi.specs_queueDeeds_9) := by
  intro p s n H F K ho hn hk hs hK
  simp only [RS, List.cons_append, List.nil_append, Option.isNone_some, Option.isNone_none, Option.isSome_some, Option.isSome_none, Nat.zero_add, Nat.add_zero, Nat.reduceAdd, List.getElem?_cons_zero, List.getElem?_cons_succ, List.length_cons, List.length_nil, List.all_cons, List.all_nil, Bool.and_self, Bool.and_true, Bool.true_and, Option.bind_some, Nat.reduceLeDiff, Nat.reduceEqDiff, Nat.le_refl, and_self, if_true, if_false, List.drop_zero, List.drop_succ_cons, List.take_zero, List.take_succ_cons, List.take_nil, List.drop_nil, true_and, and_true, decide_true, decide_false, Nat.reduceMul, Nat.zero_mul, Nat.one_mul, Nat.mul_one]
  refine use_specs_queueDeeds_9 0 ?_
  unfold sh_specs_queueDeeds_9
  obtain ⟨h, g⟩ := note_new (n := n) hs
  simp only [RS, List.cons_append, List.nil_append, Option.isNone_some, Option.isNone_none, Option.isSome_some, Option.isSome_none, Nat.zero_add, Nat.add_zero, Nat.reduceAdd, List.getElem?_cons_zero, List.getElem?_cons_succ, List.length_cons, List.length_nil, List.all_cons, List.all_nil, Bool.and_self, Bool.and_true, Bool.true_and, Option.bind_some, Nat.reduceLeDiff, Nat.reduceEqDiff, Nat.le_refl, and_self, if_true, if_false, List.drop_zero, List.drop_succ_cons, List.take_zero, List.take_succ_cons, List.take_nil, List.drop_nil, true_and, and_true, decide_true, decide_false, Nat.reduceMul, Nat.zero_mul, Nat.one_mul, Nat.mul_one, g]
  refine queued_ok ho h ?_
  exact hK _ (note_drop h)
theorem t5 : ThenP A 5 (fv Fi.specs_queueDeeds_10) := by
  intro p s n H F K ho hn hk hm hs hK
  simp only [RS, List.cons_append, List.nil_append, Option.isNone_some, Option.isNone_none, Option.isSome_some, Option.isSome_none, Nat.zero_add, Nat.add_zero, Nat.reduceAdd, List.getElem?_cons_zero, List.getElem?_cons_succ, List.length_cons, List.length_nil, List.all_cons, List.all_nil, Bool.and_self, Bool.and_true, Bool.true_and, Option.bind_some, Nat.reduceLeDiff, Nat.reduceEqDiff, Nat.le_refl, and_self, if_true, if_false, List.drop_zero, List.drop_succ_cons, List.take_zero, List.take_succ_cons, List.take_nil, List.drop_nil, true_and, and_true, decide_true, decide_false, Nat.reduceMul, Nat.zero_mul, Nat.one_mul, Nat.mul_one]
  refine use_specs_queueDeeds_10 0 ?_
  unfold sh_specs_queueDeeds_10
  obtain ⟨h, g⟩ := note_new (n := n) hs
  simp only [RS, List.cons_append, List.nil_append, Option.isNone_some, Option.isNone_none, Option.isSome_some, Option.isSome_none, Nat.zero_add, Nat.add_zero, Nat.reduceAdd, List.getElem?_cons_zero, List.getElem?_cons_succ, List.length_cons, List.length_nil, List.all_cons, List.all_nil, Bool.and_self, Bool.and_true, Bool.true_and, Option.bind_some, Nat.reduceLeDiff, Nat.reduceEqDiff, Nat.le_refl, and_self, if_true, if_false, List.drop_zero, List.drop_succ_cons, List.take_zero, List.take_succ_cons, List.take_nil, List.drop_nil, true_and, and_true, decide_true, decide_false, Nat.reduceMul, Nat.zero_mul, Nat.one_mul, Nat.mul_one, g]
  refine out_ok ho h fun H' h' => ?_
  exact hK _ (note_drop h')

/-! ### mutexes -/
theorem o_look {H : AH} {d : DX} {s : SS} {F : SL} (hd : d.rel s) (h : sat H (mapA .u32 d.mo d.Do owF * F)) (a : Int) : lkO (.int .u32) (.int .i64 0) false (.int .u32 a) (H.get d.mo) = some (.int .i64 (s.ow a)) := by
  obtain ⟨o, e, c⟩ := map_look (k := a) (z := .int .i64 0) (ok := false) h
  rw [e]
  rcases c with ⟨rfl, hn⟩ | ⟨v, y, rfl, hx, h2⟩
  · rw [hd.ow, hn]; rfl
  · rw [hd.ow, hx]
    obtain ⟨rfl, -⟩ := sat_lift.1 h2
    rfl
theorem upd_rel_o {d : DX} {s : SS} (hd : d.rel s) (a : Int) (x : Option Int) : ({ d with Do := upd d.Do a x } : DX).rel { s with ow := upd s.ow a (x.getD 0) } := by
  refine ⟨hd.q, fun b => ?_, hd.lk, hd.on, hd.wa⟩
  by_cases hb : b = a
  · subst hb; simp [upd_self]
  · simp [upd_ne _ _ hb, hd.ow]
theorem o_set {H : AH} {d : DX} {s : SS} {F : SL} {p : Nat} {a x : Int} (hd : d.rel s) (h : sat H (pts p (d.hd s) * (d.maps * F))) :
    ∃ H', muO d.mo (.int .u32) (.int .u32 a) (.int .i64 x) H (H.get d.mo) = some (.tuple ⟨[]⟩, H') ∧ sat H' (StR p { s with ow := upd s.ow a x } * F) := by
  have h1 : sat H (mapA .u32 d.mo d.Do owF * (owF a x (.int .i64 x) * (pts p (d.hd s) * (mapA .u32 d.mq d.Dq qF * (mapA .u32 d.ml d.Dl lkF * (mapA .u32 d.mn d.Dn onF * (mapA .i64 d.mw d.Dw waF * F))))))) := by
    rw [sep_left_comm]
    exact sat_lift.2 ⟨rfl, maps_o h⟩
  obtain ⟨H', e, h2⟩ := map_set h1
  refine ⟨H', e, sat_StR.2 ⟨{ d with Do := upd d.Do a (some x) }, upd_rel_o hd a (some x), sat_of_eq h2 ?_⟩⟩
  simp only [DX.maps, DX.hd, hdS]
  ac_rfl
theorem o_del {H : AH} {d : DX} {s : SS} {F : SL} {p : Nat} {a : Int} (hd : d.rel s) (h : sat H (pts p (d.hd s) * (d.maps * F))) :
    ∃ H', delO d.mo (.int .u32) (.int .u32 a) H (H.get d.mo) = some (.tuple ⟨[]⟩, H') ∧ sat H' (StR p { s with ow := upd s.ow a 0 } * F) := by
  obtain ⟨H', e, h2⟩ := map_del (k := a) (maps_o h)
  refine ⟨H', e, sat_StR.2 ⟨{ d with Do := upd d.Do a none }, upd_rel_o hd a none, sat_of_eq h2 ?_⟩⟩
  simp only [DX.maps, DX.hd, hdS]
  ac_rfl
theorem has_ok {p : Nat} {s : SS} {n : NV} {H : AH} {F : SL} {K : KV} (hn : n.ok) (hs : sat H (StR p s * F)) (hK : ∀ H', sat H' (StR p s * F) → K (.bool (s.ow n.addr == n.thread + 1)) H') : DS Tryz.prog Fi.specs_has [ptr p, n.val] H K := by
  refine use_specs_has 0 ?_
  unfold sh_specs_has
  obtain ⟨h, g⟩ := note_new (n := n) hs
  obtain ⟨d, hd, h1⟩ := sat_StR.1 h
  have gp := (sat_get h1).1
  have hw : IntKind.i64.wrap (n.thread + 1) = n.thread + 1 := w64n (by have := hn.th; omega)
  simp only [DX.hd, hdS] at gp
  simp only [RS, List.cons_append, List.nil_append, Option.isNone_some, Option.isNone_none, Option.isSome_some, Option.isSome_none, Nat.zero_add, Nat.add_zero, Nat.reduceAdd, List.getElem?_cons_zero, List.getElem?_cons_succ, List.length_cons, List.length_nil, List.all_cons, List.all_nil, Bool.and_self, Bool.and_true, Bool.true_and, Option.bind_some, Nat.reduceLeDiff, Nat.reduceEqDiff, Nat.le_refl, and_self, if_true, if_false, List.drop_zero, List.drop_succ_cons, List.take_zero, List.take_succ_cons, List.take_nil, List.drop_nil, true_and, and_true, decide_true, decide_false, Nat.reduceMul, Nat.zero_mul, Nat.one_mul, Nat.mul_one, g, gp, o_look hd (maps_o h1), hw]
  exact hK _ (note_drop h)
theorem m16 : MayP A 16 (fv Fi.specs_mutexDeeds_1) := by
  intro p s n H F K ho hn hk hs hK
  simp only [RS, List.cons_append, List.nil_append, Option.isNone_some, Option.isNone_none, Option.isSome_some, Option.isSome_none, Nat.zero_add, Nat.add_zero, Nat.reduceAdd, List.getElem?_cons_zero, List.getElem?_cons_succ, List.length_cons, List.length_nil, List.all_cons, List.all_nil, Bool.and_self, Bool.and_true, Bool.true_and, Option.bind_some, Nat.reduceLeDiff, Nat.reduceEqDiff, Nat.le_refl, and_self, if_true, if_false, List.drop_zero, List.drop_succ_cons, List.take_zero, List.take_succ_cons, List.take_nil, List.drop_nil, true_and, and_true, decide_true, decide_false, Nat.reduceMul, Nat.zero_mul, Nat.one_mul, Nat.mul_one]
  refine use_specs_mutexDeeds_1 0 ?_
  unfold sh_specs_mutexDeeds_1
  obtain ⟨h, g⟩ := note_new (n := n) hs
  obtain ⟨d, hd, h1⟩ := sat_StR.1 h
  have gp := (sat_get h1).1
  simp only [DX.hd, hdS] at gp
  simp only [RS, List.cons_append, List.nil_append, Option.isNone_some, Option.isNone_none, Option.isSome_some, Option.isSome_none, Nat.zero_add, Nat.add_zero, Nat.reduceAdd, List.getElem?_cons_zero, List.getElem?_cons_succ, List.length_cons, List.length_nil, List.all_cons, List.all_nil, Bool.and_self, Bool.and_true, Bool.true_and, Option.bind_some, Nat.reduceLeDiff, Nat.reduceEqDiff, Nat.le_refl, and_self, if_true, if_false, List.drop_zero, List.drop_succ_cons, List.take_zero, List.take_succ_cons, List.take_nil, List.drop_nil, true_and, and_true, decide_true, decide_false, Nat.reduceMul, Nat.zero_mul, Nat.one_mul, Nat.mul_one, g, gp, o_look hd (maps_o h1)]
  exact hK _ (note_drop h)
theorem t16 : ThenP A 16 (fv Fi.specs_mutexDeeds_2) := by
  intro p s n H F K ho hn hk hm hs hK
  simp only [RS, List.cons_append, List.nil_append, Option.isNone_some, Option.isNone_none, Option.isSome_some, Option.isSome_none, Nat.zero_add, Nat.add_zero, Nat.reduceAdd, List.getElem?_cons_zero, List.getElem?_cons_succ, List.length_cons, List.length_nil, List.all_cons, List.all_nil, Bool.and_self, Bool.and_true, Bool.true_and, Option.bind_some, Nat.reduceLeDiff, Nat.reduceEqDiff, Nat.le_refl, and_self, if_true, if_false, List.drop_zero, List.drop_succ_cons, List.take_zero, List.take_succ_cons, List.take_nil, List.drop_nil, true_and, and_true, decide_true, decide_false, Nat.reduceMul, Nat.zero_mul, Nat.one_mul, Nat.mul_one]
  refine use_specs_mutexDeeds_2 0 ?_
  unfold sh_specs_mutexDeeds_2
  obtain ⟨h, g⟩ := note_new (n := n) hs
  obtain ⟨d, hd, h1⟩ := sat_StR.1 h
  have gp := (sat_get h1).1
  have hw : IntKind.i64.wrap (n.thread + 1) = n.thread + 1 := w64n (by have := hn.th; omega)
  obtain ⟨H', e, h2⟩ := o_set (a := n.addr) (x := n.thread + 1) hd h1
  simp only [DX.hd, hdS] at gp
  simp only [RS, List.cons_append, List.nil_append, Option.isNone_some, Option.isNone_none, Option.isSome_some, Option.isSome_none, Nat.zero_add, Nat.add_zero, Nat.reduceAdd, List.getElem?_cons_zero, List.getElem?_cons_succ, List.length_cons, List.length_nil, List.all_cons, List.all_nil, Bool.and_self, Bool.and_true, Bool.true_and, Option.bind_some, Nat.reduceLeDiff, Nat.reduceEqDiff, Nat.le_refl, and_self, if_true, if_false, List.drop_zero, List.drop_succ_cons, List.take_zero, List.take_succ_cons, List.take_nil, List.drop_nil, true_and, and_true, decide_true, decide_false, Nat.reduceMul, Nat.zero_mul, Nat.one_mul, Nat.mul_one, g, gp, hw, e]
  exact hK _ (note_drop h2)
theorem m17 : MayP A 17 (fv Fi.specs_has) := by
  intro p s n H F K ho hn hk hs hK
  simp only [RS, List.cons_append, List.nil_append, Option.isNone_some, Option.isNone_none, Option.isSome_some, Option.isSome_none, Nat.zero_add, Nat.add_zero, Nat.reduceAdd, List.getElem?_cons_zero, List.getElem?_cons_succ, List.length_cons, List.length_nil, List.all_cons, List.all_nil, Bool.and_self, Bool.and_true, Bool.true_and, Option.bind_some, Nat.reduceLeDiff, Nat.reduceEqDiff, Nat.le_refl, and_self, if_true, if_false, List.drop_zero, List.drop_succ_cons, List.take_zero, List.take_succ_cons, List.take_nil, List.drop_nil, true_and, and_true, decide_true, decide_false, Nat.reduceMul, Nat.zero_mul, Nat.one_mul, Nat.mul_one]
  exact has_ok hn hs hK
theorem t17 : ThenP A 17 (fv Fi.specs_mutexDeeds_3) := by
  intro p s n H F K ho hn hk hm hs hK
  simp only [RS, List.cons_append, List.nil_append, Option.isNone_some, Option.isNone_none, Option.isSome_some, Option.isSome_none, Nat.zero_add, Nat.add_zero, Nat.reduceAdd, List.getElem?_cons_zero, List.getElem?_cons_succ, List.length_cons, List.length_nil, List.all_cons, List.all_nil, Bool.and_self, Bool.and_true, Bool.true_and, Option.bind_some, Nat.reduceLeDiff, Nat.reduceEqDiff, Nat.le_refl, and_self, if_true, if_false, List.drop_zero, List.drop_succ_cons, List.take_zero, List.take_succ_cons, List.take_nil, List.drop_nil, true_and, and_true, decide_true, decide_false, Nat.reduceMul, Nat.zero_mul, Nat.one_mul, Nat.mul_one]
  refine use_specs_mutexDeeds_3 0 ?_
  unfold sh_specs_mutexDeeds_3
  obtain ⟨h, g⟩ := note_new (n := n) hs
  obtain ⟨d, hd, h1⟩ := sat_StR.1 h
  have gp := (sat_get h1).1
  obtain ⟨H', e, h2⟩ := o_del (a := n.addr) hd h1
  simp only [DX.hd, hdS] at gp
  simp only [RS, List.cons_append, List.nil_append, Option.isNone_some, Option.isNone_none, Option.isSome_some, Option.isSome_none, Nat.zero_add, Nat.add_zero, Nat.reduceAdd, List.getElem?_cons_zero, List.getElem?_cons_succ, List.length_cons, List.length_nil, List.all_cons, List.all_nil, Bool.and_self, Bool.and_true, Bool.true_and, Option.bind_some, Nat.reduceLeDiff, Nat.reduceEqDiff, Nat.le_refl, and_self, if_true, if_false, List.drop_zero, List.drop_succ_cons, List.take_zero, List.take_succ_cons, List.take_nil, List.drop_nil, true_and, and_true, decide_true, decide_false, Nat.reduceMul, Nat.zero_mul, Nat.one_mul, Nat.mul_one, g, gp, e]
  exact hK _ (note_drop h2)
theorem m18 : MayP A 18 (fv Fi.specs_has) := by
  intro p s n H F K ho hn hk hs hK
  simp only [RS, List.cons_append, List.nil_append, Option.isNone_some, Option.isNone_none, Option.isSome_some, Option.isSome_none, Nat.zero_add, Nat.add_zero, Nat.reduceAdd, List.getElem?_cons_zero, List.getElem?_cons_succ, List.length_cons, List.length_nil, List.all_cons, List.all_nil, Bool.and_self, Bool.and_true, Bool.true_and, Option.bind_some, Nat.reduceLeDiff, Nat.reduceEqDiff, Nat.le_refl, and_self, if_true, if_false, List.drop_zero, List.drop_succ_cons, List.take_zero, List.take_succ_cons, List.take_nil, List.drop_nil, true_and, and_true, decide_true, decide_false, Nat.reduceMul, Nat.zero_mul, Nat.one_mul, Nat.mul_one]
  exact has_ok hn hs hK
theorem t18 : ThenP A 18 (fv Fi.specs_mutexDeeds_4) := by
  intro p s n H F K ho hn hk hm hs hK
  simp only [RS, List.cons_append, List.nil_append, Option.isNone_some, Option.isNone_none, Option.isSome_some, Option.isSome_none, Nat.zero_add, Nat.add_zero, Nat.reduceAdd, List.getElem?_cons_zero, List.getElem?_cons_succ, List.length_cons, List.length_nil, List.all_cons, List.all_nil, Bool.and_self, Bool.and_true, Bool.true_and, Option.bind_some, Nat.reduceLeDiff, Nat.reduceEqDiff, Nat.le_refl, and_self, if_true, if_false, List.drop_zero, List.drop_succ_cons, List.take_zero, List.take_succ_cons, List.take_nil, List.drop_nil, true_and, and_true, decide_true, decide_false, Nat.reduceMul, Nat.zero_mul, Nat.one_mul, Nat.mul_one]
  refine use_specs_mutexDeeds_4 0 ?_
  unfold sh_specs_mutexDeeds_4
  obtain ⟨h, g⟩ := note_new (n := n) hs
  obtain ⟨d, hd, h1⟩ := sat_StR.1 h
  have gp := (sat_get h1).1
  have hot := hn.ot (by simp [NV.oth, hk])
  have hw : IntKind.i64.wrap (n.other + 1) = n.other + 1 := w64n (by omega)
  obtain ⟨H', e, h2⟩ := o_set (a := n.addr) (x := n.other + 1) hd h1
  simp only [DX.hd, hdS] at gp
  simp only [RS, List.cons_append, List.nil_append, Option.isNone_some, Option.isNone_none, Option.isSome_some, Option.isSome_none, Nat.zero_add, Nat.add_zero, Nat.reduceAdd, List.getElem?_cons_zero, List.getElem?_cons_succ, List.length_cons, List.length_nil, List.all_cons, List.all_nil, Bool.and_self, Bool.and_true, Bool.true_and, Option.bind_some, Nat.reduceLeDiff, Nat.reduceEqDiff, Nat.le_refl, and_self, if_true, if_false, List.drop_zero, List.drop_succ_cons, List.take_zero, List.take_succ_cons, List.take_nil, List.drop_nil, true_and, and_true, decide_true, decide_false, Nat.reduceMul, Nat.zero_mul, Nat.one_mul, Nat.mul_one, g, gp, hw, e]
  exact hK _ (note_drop h2)
theorem m19 : MayP A 19 (fv Fi.specs_mutexDeeds_5) := by
  intro p s n H F K ho hn hk hs hK
  simp only [RS, List.cons_append, List.nil_append, Option.isNone_some, Option.isNone_none, Option.isSome_some, Option.isSome_none, Nat.zero_add, Nat.add_zero, Nat.reduceAdd, List.getElem?_cons_zero, List.getElem?_cons_succ, List.length_cons, List.length_nil, List.all_cons, List.all_nil, Bool.and_self, Bool.and_true, Bool.true_and, Option.bind_some, Nat.reduceLeDiff, Nat.reduceEqDiff, Nat.le_refl, and_self, if_true, if_false, List.drop_zero, List.drop_succ_cons, List.take_zero, List.take_succ_cons, List.take_nil, List.drop_nil, true_and, and_true, decide_true, decide_false, Nat.reduceMul, Nat.zero_mul, Nat.one_mul, Nat.mul_one]
  refine use_specs_mutexDeeds_5 0 ?_
  unfold sh_specs_mutexDeeds_5
  obtain ⟨h, g⟩ := note_new (n := n) hs
  obtain ⟨d, hd, h1⟩ := sat_StR.1 h
  have gp := (sat_get h1).1
  simp only [DX.hd, hdS] at gp
  simp only [RS, List.cons_append, List.nil_append, Option.isNone_some, Option.isNone_none, Option.isSome_some, Option.isSome_none, Nat.zero_add, Nat.add_zero, Nat.reduceAdd, List.getElem?_cons_zero, List.getElem?_cons_succ, List.length_cons, List.length_nil, List.all_cons, List.all_nil, Bool.and_self, Bool.and_true, Bool.true_and, Option.bind_some, Nat.reduceLeDiff, Nat.reduceEqDiff, Nat.le_refl, and_self, if_true, if_false, List.drop_zero, List.drop_succ_cons, List.take_zero, List.take_succ_cons, List.take_nil, List.drop_nil, true_and, and_true, decide_true, decide_false, Nat.reduceMul, Nat.zero_mul, Nat.one_mul, Nat.mul_one, g, gp, o_look hd (maps_o h1)]
  cases hb : (s.ow n.addr != 0) with
  | true =>
    have : mayB 19 s n = true := by simp only [mayB, hb, Bool.true_or]
    rw [this] at hK
    simp only [gdD, RS, List.cons_append, List.nil_append, Option.isNone_some, Option.isNone_none, Option.isSome_some, Option.isSome_none, Nat.zero_add, Nat.add_zero, Nat.reduceAdd, List.getElem?_cons_zero, List.getElem?_cons_succ, List.length_cons, List.length_nil, List.all_cons, List.all_nil, Bool.and_self, Bool.and_true, Bool.true_and, Option.bind_some, Nat.reduceLeDiff, Nat.reduceEqDiff, Nat.le_refl, and_self, if_true, if_false, List.drop_zero, List.drop_succ_cons, List.take_zero, List.take_succ_cons, List.take_nil, List.drop_nil, true_and, and_true, decide_true, decide_false, Nat.reduceMul, Nat.zero_mul, Nat.one_mul, Nat.mul_one]
    exact hK _ (note_drop h)
  | false =>
    have : mayB 19 s n = !(s.lk n.addr).idle := by simp only [mayB, hb, Bool.false_or]
    rw [this] at hK
    simp only [gdD, RS, List.cons_append, List.nil_append, Option.isNone_some, Option.isNone_none, Option.isSome_some, Option.isSome_none, Nat.zero_add, Nat.add_zero, Nat.reduceAdd, List.getElem?_cons_zero, List.getElem?_cons_succ, List.length_cons, List.length_nil, List.all_cons, List.all_nil, Bool.and_self, Bool.and_true, Bool.true_and, Option.bind_some, Nat.reduceLeDiff, Nat.reduceEqDiff, Nat.le_refl, and_self, if_true, if_false, List.drop_zero, List.drop_succ_cons, List.take_zero, List.take_succ_cons, List.take_nil, List.drop_nil, true_and, and_true, decide_true, decide_false, Nat.reduceMul, Nat.zero_mul, Nat.one_mul, Nat.mul_one, g]
    refine lock_ok h fun v H' h' => ?_
    refine idle_ok h' ?_
    simp only [RS, List.cons_append, List.nil_append, Option.isNone_some, Option.isNone_none, Option.isSome_some, Option.isSome_none, Nat.zero_add, Nat.add_zero, Nat.reduceAdd, List.getElem?_cons_zero, List.getElem?_cons_succ, List.length_cons, List.length_nil, List.all_cons, List.all_nil, Bool.and_self, Bool.and_true, Bool.true_and, Option.bind_some, Nat.reduceLeDiff, Nat.reduceEqDiff, Nat.le_refl, and_self, if_true, if_false, List.drop_zero, List.drop_succ_cons, List.take_zero, List.take_succ_cons, List.take_nil, List.drop_nil, true_and, and_true, decide_true, decide_false, Nat.reduceMul, Nat.zero_mul, Nat.one_mul, Nat.mul_one]
    exact hK _ (note_drop (lock_close' h'))
theorem m20 : MayP A 20 (fv Fi.specs_mutexDeeds_6) := by
  intro p s n H F K ho hn hk hs hK
  simp only [RS, List.cons_append, List.nil_append, Option.isNone_some, Option.isNone_none, Option.isSome_some, Option.isSome_none, Nat.zero_add, Nat.add_zero, Nat.reduceAdd, List.getElem?_cons_zero, List.getElem?_cons_succ, List.length_cons, List.length_nil, List.all_cons, List.all_nil, Bool.and_self, Bool.and_true, Bool.true_and, Option.bind_some, Nat.reduceLeDiff, Nat.reduceEqDiff, Nat.le_refl, and_self, if_true, if_false, List.drop_zero, List.drop_succ_cons, List.take_zero, List.take_succ_cons, List.take_nil, List.drop_nil, true_and, and_true, decide_true, decide_false, Nat.reduceMul, Nat.zero_mul, Nat.one_mul, Nat.mul_one]
  refine use_specs_mutexDeeds_6 0 ?_
  unfold sh_specs_mutexDeeds_6
  obtain ⟨h, g⟩ := note_new (n := n) hs
  simp only [RS, List.cons_append, List.nil_append, Option.isNone_some, Option.isNone_none, Option.isSome_some, Option.isSome_none, Nat.zero_add, Nat.add_zero, Nat.reduceAdd, List.getElem?_cons_zero, List.getElem?_cons_succ, List.length_cons, List.length_nil, List.all_cons, List.all_nil, Bool.and_self, Bool.and_true, Bool.true_and, Option.bind_some, Nat.reduceLeDiff, Nat.reduceEqDiff, Nat.le_refl, and_self, if_true, if_false, List.drop_zero, List.drop_succ_cons, List.take_zero, List.take_succ_cons, List.take_nil, List.drop_nil, true_and, and_true, decide_true, decide_false, Nat.reduceMul, Nat.zero_mul, Nat.one_mul, Nat.mul_one, g]
  refine has_ok hn h fun H' h' => ?_
  simp only [RS, List.cons_append, List.nil_append, Option.isNone_some, Option.isNone_none, Option.isSome_some, Option.isSome_none, Nat.zero_add, Nat.add_zero, Nat.reduceAdd, List.getElem?_cons_zero, List.getElem?_cons_succ, List.length_cons, List.length_nil, List.all_cons, List.all_nil, Bool.and_self, Bool.and_true, Bool.true_and, Option.bind_some, Nat.reduceLeDiff, Nat.reduceEqDiff, Nat.le_refl, and_self, if_true, if_false, List.drop_zero, List.drop_succ_cons, List.take_zero, List.take_succ_cons, List.take_nil, List.drop_nil, true_and, and_true, decide_true, decide_false, Nat.reduceMul, Nat.zero_mul, Nat.one_mul, Nat.mul_one]
  exact hK _ (note_drop h')
end
end Go.Proofs.YtiolnpeniklhiaaGreatDoor
