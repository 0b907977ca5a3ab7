/- The document's answer: mutexes and onces.
   Conditions: what stands in memory, as each states it. -/
import Derived.Test.YtiolnpeniklhiaaGreatDoorRef2
namespace Go.Proofs.YtiolnpeniklhiaaGreatDoor
open Go Go.Ab
set_option linter.all false
set_option maxRecDepth 100000

abbrev NV.rrow (n : NV) : List Value := [.int .i64 n.step, .int .i64 n.thread, .int .i64 n.kind, .int .u32 n.addr, .int .i64 n.other, .int .u32 n.to, .int .u64 n.value]
abbrev NV.rval (n : NV) : Value := .agg ⟨n.rrow⟩
theorem kindq {k j : Nat} (h : k = j) : ((k : Int) == (j : Int)) = true := by subst h; simp
theorem kindn {k j : Nat} (h : k ≠ j) : ((k : Int) == (j : Int)) = false := by
  have : ¬ ((k : Int) = (j : Int)) := by omega
  simpa using this
theorem lt0 {x : Int} (h : 0 ≤ x) : decide (x - 1 < 0) = (x == 0) := by
  by_cases e : x = 0
  · subst e; rfl
  · rw [decide_eq_false (by omega), beq_eq_false_iff_ne.2 e]
theorem ge0 {x : Int} (h : 0 ≤ x) : decide (x - 1 ≥ 0) = (x != 0) := by
  by_cases e : x = 0
  · subst e; rfl
  · rw [decide_eq_true (by omega)]; simpa using e
theorem eqm (x t : Int) : (x - 1 == t) = (x == t + 1) := by
  by_cases e : x = t + 1
  · subst e; simp
  · have : ¬ (x - 1 = t) := by omega
    rw [beq_eq_false_iff_ne.2 e, beq_eq_false_iff_ne.2 this]
theorem nem (x t : Int) : (x - 1 != t) = !(x == t + 1) := by rw [← eqm]; rfl
theorem len0 (l : List Int) : decide ((l.length : Int) > 0) = !decide (l = []) := by
  cases l with
  | nil => rfl
  | cons x l => simp
theorem leneq (l : List Int) : ((l.length : Int) == 0) = decide (l = []) := by
  cases l with
  | nil => rfl
  | cons x l =>
    have : ¬ (((x :: l).length : Int) = 0) := by simp; omega
    rw [beq_eq_false_iff_ne.2 this]; simp
section
variable {H : AH} {F : SL} {K : KV} {s : SS} {r : Nat} {L : PL} {n : NV}
theorem rnote_new {G : SL} (h : sat H (RefL r s L * G)) : sat (H.new (.cells n.rrow Ty.laybyref11_Note .fix)) (RefL r s L * (pts H.nx (.cells n.rrow Ty.laybyref11_Note .fix) * G)) ∧ (H.new (.cells n.rrow Ty.laybyref11_Note .fix)).get H.nx = some (.cells n.rrow Ty.laybyref11_Note .fix) := by
  have := sat_new (.cells n.rrow Ty.laybyref11_Note .fix) h
  exact ⟨sat_of_eq this (by ac_rfl), (sat_get this).1⟩
theorem rnote_drop {m : Nat} {s' : SS} {L' : PL} {G : SL} (h : sat H (RefL r s' L' * (pts m (.cells n.rrow Ty.laybyref11_Note .fix) * G))) : sat H (RefL r s' L' * G) := sat_sub (A := pts m (.cells n.rrow Ty.laybyref11_Note .fix)) (sat_of_eq h (by ac_rfl))
theorem prOf_ow {a b x : Int} : prOf { s with ow := upd s.ow a x } b = if b = a then { prOf s b with ow := x - 1 } else prOf s b := by
  by_cases h : b = a
  · subst h; simp [prOf, upd_self]
  · simp [prOf, upd_ne _ _ h, h]
theorem prOf_on {a b : Int} {x : OnS} : prOf { s with on := upd s.on a x } b = if b = a then { prOf s b with by_ := x.by_ - 1, dn := x.dn, sk := x.sk } else prOf s b := by
  by_cases h : b = a
  · subst h; simp [prOf, upd_self]
  · simp [prOf, upd_ne _ _ h, h]
theorem prOf_lk {a b : Int} {x : LkS} : prOf { s with lk := upd s.lk a x } b = if b = a then { prOf s b with rd := x.rd, up := x.up - 1, cl := x.cl - 1, wr := x.wr } else prOf s b := by
  by_cases h : b = a
  · subst h; simp [prOf, upd_self]
  · simp [prOf, upd_ne _ _ h, h]
theorem prOf_q {a b : Int} {x : List Int} : prOf { s with q := upd s.q a x } b = if b = a then { prOf s b with q := x } else prOf s b := by
  by_cases h : b = a
  · subst h; simp [prOf, upd_self]
  · simp [prOf, upd_ne _ _ h, h]
/-- A deed that asks: its fault and what is so then. -/
theorem deed_bif {k : Nat} (h : fltS k s n = bif mayB k s n then 0 else 3) : deedS k s n = bif mayB k s n then thenS k s n else s := by
  unfold deedS
  rw [h]
  cases mayB k s n <;> rfl
theorem rmutex_ok {k : Nat} (ho : s.ok) (hn : n.ok) (ha : 0 ≤ n.addr ∧ n.addr < 4294967296) (hk : n.kind = k) (hks : k = 16 ∨ k = 17 ∨ k = 18 ∨ k = 19 ∨ k = 20) (hs : sat H (RefL r s L * F))
    (hK : ∀ H' L', sat H' (RefL r (deedS k s n) L' * F) → K (.int .i64 (fltS k s n)) H') : DS Tryz.prog Fi.laybyref37_State_mutex [ptr r, n.rval] H K := by
  have hflt : fltS k s n = bif mayB k s n then 0 else 3 := by rcases hks with rfl | rfl | rfl | rfl | rfl <;> rfl
  rw [hflt, deed_bif hflt] at hK
  refine use_laybyref37_State_mutex 0 ?_
  unfold sh_laybyref37_State_mutex
  obtain ⟨h1, g1⟩ := rnote_new (n := n) hs
  simp only [RS, List.cons_append, List.nil_append, Option.isNone_some, Option.isNone_none, Option.isSome_some, Option.isSome_none, Nat.zero_add, Nat.add_zero, Nat.reduceAdd, List.getElem?_cons_zero, List.getElem?_cons_succ, List.length_cons, List.length_nil, List.all_cons, List.all_nil, Bool.and_self, Bool.and_true, Bool.true_and, Option.bind_some, Nat.reduceLeDiff, Nat.reduceEqDiff, Nat.le_refl, and_self, if_true, if_false, List.drop_zero, List.drop_succ_cons, List.take_zero, List.take_succ_cons, List.take_nil, List.drop_nil, true_and, and_true, decide_true, decide_false, Nat.reduceMul, Nat.zero_mul, Nat.one_mul, Nat.mul_one, g1]
  refine at_ok ha h1 fun m H1 L' hm _ h2 => ?_
  have gn := (sat_get (sat_sub h2)).1
  have h3 := ref_open hm h2
  obtain ⟨vq, vr, h4⟩ := sat_plA.1 h3
  have gp := (sat_get h4).1
  have rowr := slice_row (sat_sub (sat_sub h4))
  have hlr := rowr.len
  have how := ho.ow n.addr
  have hlk := ho.lk n.addr
  simp only [prOf] at gp hlr
  simp only [RS, List.cons_append, List.nil_append, Option.isNone_some, Option.isNone_none, Option.isSome_some, Option.isSome_none, Nat.zero_add, Nat.add_zero, Nat.reduceAdd, List.getElem?_cons_zero, List.getElem?_cons_succ, List.length_cons, List.length_nil, List.all_cons, List.all_nil, Bool.and_self, Bool.and_true, Bool.true_and, Option.bind_some, Nat.reduceLeDiff, Nat.reduceEqDiff, Nat.le_refl, and_self, if_true, if_false, List.drop_zero, List.drop_succ_cons, List.take_zero, List.take_succ_cons, List.take_nil, List.drop_nil, true_and, and_true, decide_true, decide_false, Nat.reduceMul, Nat.zero_mul, Nat.one_mul, Nat.mul_one, gn, gp, eqm]
  refine jn_rule (fun t H' => ∃ ow' : Int, t = (ptr m, .bool (mayB k s n), .int .i64 ow', ()) ∧ H' = H1 ∧ (mayB k s n = true → prOf (thenS k s n) n.addr = { prOf s n.addr with ow := ow' })) ?_ ?_
  · rintro t H' ⟨ow', rfl, rfl, hx⟩
    have hoth : ∀ b, b ≠ n.addr → prOf (thenS k s n) b = prOf s b := fun b hb => by
      rcases hks with rfl | rfl | rfl | rfl | rfl
      · exact prOf_ow.trans (if_neg hb)
      · exact prOf_ow.trans (if_neg hb)
      · exact prOf_ow.trans (if_neg hb)
      · rfl
      · rfl
    have hsame : (thenS k s n).wa = s.wa ∧ (thenS k s n).step = s.step ∧ (thenS k s n).seen = s.seen := by rcases hks with rfl | rfl | rfl | rfl | rfl <;> exact ⟨rfl, rfl, rfl⟩
    refine jn_of ?_
    simp only [RS, List.cons_append, List.nil_append, Option.isNone_some, Option.isNone_none, Option.isSome_some, Option.isSome_none, Nat.zero_add, Nat.add_zero, Nat.reduceAdd, List.getElem?_cons_zero, List.getElem?_cons_succ, List.length_cons, List.length_nil, List.all_cons, List.all_nil, Bool.and_self, Bool.and_true, Bool.true_and, Option.bind_some, Nat.reduceLeDiff, Nat.reduceEqDiff, Nat.le_refl, and_self, if_true, if_false, List.drop_zero, List.drop_succ_cons, List.take_zero, List.take_succ_cons, List.take_nil, List.drop_nil, true_and, and_true, decide_true, decide_false, Nat.reduceMul, Nat.zero_mul, Nat.one_mul, Nat.mul_one]
    cases hmay : mayB k s n with
    | true =>
      rw [hmay] at hK
      simp only [RS, List.cons_append, List.nil_append, Option.isNone_some, Option.isNone_none, Option.isSome_some, Option.isSome_none, Nat.zero_add, Nat.add_zero, Nat.reduceAdd, List.getElem?_cons_zero, List.getElem?_cons_succ, List.length_cons, List.length_nil, List.all_cons, List.all_nil, Bool.and_self, Bool.and_true, Bool.true_and, Option.bind_some, Nat.reduceLeDiff, Nat.reduceEqDiff, Nat.le_refl, and_self, if_true, if_false, List.drop_zero, List.drop_succ_cons, List.take_zero, List.take_succ_cons, List.take_nil, List.drop_nil, true_and, and_true, decide_true, decide_false, Nat.reduceMul, Nat.zero_mul, Nat.one_mul, Nat.mul_one, gp]
      refine fault_ok ?_
      have h5 := sat_put (.cells (({ prOf s n.addr with ow := ow' } : PR).row n.addr vq vr) Ty.laybyref37_place .fix) h4
      refine hK _ L' (rnote_drop (n := n) (ref_close hm (sat_plA.2 ⟨vq, vr, h5⟩) (hx hmay) hoth hsame.1 hsame.2.1 hsame.2.2))
    | false =>
      rw [hmay] at hK
      simp only [RS, List.cons_append, List.nil_append, Option.isNone_some, Option.isNone_none, Option.isSome_some, Option.isSome_none, Nat.zero_add, Nat.add_zero, Nat.reduceAdd, List.getElem?_cons_zero, List.getElem?_cons_succ, List.length_cons, List.length_nil, List.all_cons, List.all_nil, Bool.and_self, Bool.and_true, Bool.true_and, Option.bind_some, Nat.reduceLeDiff, Nat.reduceEqDiff, Nat.le_refl, and_self, if_true, if_false, List.drop_zero, List.drop_succ_cons, List.take_zero, List.take_succ_cons, List.take_nil, List.drop_nil, true_and, and_true, decide_true, decide_false, Nat.reduceMul, Nat.zero_mul, Nat.one_mul, Nat.mul_one]
      refine fault_ok ?_
      exact hK _ L' (rnote_drop h2)
  · intro R hR
    have base := fun {ow' : Int} {b : Bool} (hb : mayB k s n = b) (hx : mayB k s n = true → prOf (thenS k s n) n.addr = { prOf s n.addr with ow := ow' }) => hR (ptr m, .bool b, .int .i64 ow', ()) H1 ⟨ow', by rw [hb], rfl, hx⟩
    simp only [RS, List.cons_append, List.nil_append, Option.isNone_some, Option.isNone_none, Option.isSome_some, Option.isSome_none, Nat.zero_add, Nat.add_zero, Nat.reduceAdd, List.getElem?_cons_zero, List.getElem?_cons_succ, List.length_cons, List.length_nil, List.all_cons, List.all_nil, Bool.and_self, Bool.and_true, Bool.true_and, Option.bind_some, Nat.reduceLeDiff, Nat.reduceEqDiff, Nat.le_refl, and_self, if_true, if_false, List.drop_zero, List.drop_succ_cons, List.take_zero, List.take_succ_cons, List.take_nil, List.drop_nil, true_and, and_true, decide_true, decide_false, Nat.reduceMul, Nat.zero_mul, Nat.one_mul, Nat.mul_one, gn, hk]
    rcases hks with rfl | rfl | rfl | rfl | rfl
    · have b16 : ((((16 : Nat) : Int)) == 16) = true := rfl
      simp only [RS, List.cons_append, List.nil_append, Option.isNone_some, Option.isNone_none, Option.isSome_some, Option.isSome_none, Nat.zero_add, Nat.add_zero, Nat.reduceAdd, List.getElem?_cons_zero, List.getElem?_cons_succ, List.length_cons, List.length_nil, List.all_cons, List.all_nil, Bool.and_self, Bool.and_true, Bool.true_and, Option.bind_some, Nat.reduceLeDiff, Nat.reduceEqDiff, Nat.le_refl, and_self, if_true, if_false, List.drop_zero, List.drop_succ_cons, List.take_zero, List.take_succ_cons, List.take_nil, List.drop_nil, true_and, and_true, decide_true, decide_false, Nat.reduceMul, Nat.zero_mul, Nat.one_mul, Nat.mul_one, b16, gp, gn, lt0 how.1]
      exact base rfl fun _ => by
        show prOf { s with ow := upd s.ow n.addr (n.thread + 1) } n.addr = _
        rw [prOf_ow, if_pos rfl, show n.thread + 1 - 1 = n.thread by omega]
    · have b16 : ((((17 : Nat) : Int)) == 16) = false := rfl
      have b17 : ((((17 : Nat) : Int)) == 17) = true := rfl
      simp only [RS, List.cons_append, List.nil_append, Option.isNone_some, Option.isNone_none, Option.isSome_some, Option.isSome_none, Nat.zero_add, Nat.add_zero, Nat.reduceAdd, List.getElem?_cons_zero, List.getElem?_cons_succ, List.length_cons, List.length_nil, List.all_cons, List.all_nil, Bool.and_self, Bool.and_true, Bool.true_and, Option.bind_some, Nat.reduceLeDiff, Nat.reduceEqDiff, Nat.le_refl, and_self, if_true, if_false, List.drop_zero, List.drop_succ_cons, List.take_zero, List.take_succ_cons, List.take_nil, List.drop_nil, true_and, and_true, decide_true, decide_false, Nat.reduceMul, Nat.zero_mul, Nat.one_mul, Nat.mul_one, b16, b17]
      exact base rfl fun _ => by
        show prOf { s with ow := upd s.ow n.addr 0 } n.addr = _
        rw [prOf_ow, if_pos rfl]
        rfl
    · have b16 : ((((18 : Nat) : Int)) == 16) = false := rfl
      have b17 : ((((18 : Nat) : Int)) == 17) = false := rfl
      have b18 : ((((18 : Nat) : Int)) == 18) = true := rfl
      simp only [RS, List.cons_append, List.nil_append, Option.isNone_some, Option.isNone_none, Option.isSome_some, Option.isSome_none, Nat.zero_add, Nat.add_zero, Nat.reduceAdd, List.getElem?_cons_zero, List.getElem?_cons_succ, List.length_cons, List.length_nil, List.all_cons, List.all_nil, Bool.and_self, Bool.and_true, Bool.true_and, Option.bind_some, Nat.reduceLeDiff, Nat.reduceEqDiff, Nat.le_refl, and_self, if_true, if_false, List.drop_zero, List.drop_succ_cons, List.take_zero, List.take_succ_cons, List.take_nil, List.drop_nil, true_and, and_true, decide_true, decide_false, Nat.reduceMul, Nat.zero_mul, Nat.one_mul, Nat.mul_one, b16, b17, b18, gn]
      exact base rfl fun _ => by
        show prOf { s with ow := upd s.ow n.addr (n.other + 1) } n.addr = _
        rw [prOf_ow, if_pos rfl, show n.other + 1 - 1 = n.other by omega]
    · have b16 : ((((19 : Nat) : Int)) == 16) = false := rfl
      have b17 : ((((19 : Nat) : Int)) == 17) = false := rfl
      have b18 : ((((19 : Nat) : Int)) == 18) = false := rfl
      have b19 : ((((19 : Nat) : Int)) == 19) = true := rfl
      have hid : ∀ {b : Bool}, mayB 19 s n = b → R (ptr m, .bool b, .int .i64 (s.ow n.addr - 1), ()) H1 := fun hb => base hb fun _ => rfl
      simp only [RS, List.cons_append, List.nil_append, Option.isNone_some, Option.isNone_none, Option.isSome_some, Option.isSome_none, Nat.zero_add, Nat.add_zero, Nat.reduceAdd, List.getElem?_cons_zero, List.getElem?_cons_succ, List.length_cons, List.length_nil, List.all_cons, List.all_nil, Bool.and_self, Bool.and_true, Bool.true_and, Option.bind_some, Nat.reduceLeDiff, Nat.reduceEqDiff, Nat.le_refl, and_self, if_true, if_false, List.drop_zero, List.drop_succ_cons, List.take_zero, List.take_succ_cons, List.take_nil, List.drop_nil, true_and, and_true, decide_true, decide_false, Nat.reduceMul, Nat.zero_mul, Nat.one_mul, Nat.mul_one, b16, b17, b18, b19, gp, ge0 how.1]
      cases c1 : (s.ow n.addr != 0) with
      | true =>
        simp only [RS, List.cons_append, List.nil_append, Option.isNone_some, Option.isNone_none, Option.isSome_some, Option.isSome_none, Nat.zero_add, Nat.add_zero, Nat.reduceAdd, List.getElem?_cons_zero, List.getElem?_cons_succ, List.length_cons, List.length_nil, List.all_cons, List.all_nil, Bool.and_self, Bool.and_true, Bool.true_and, Option.bind_some, Nat.reduceLeDiff, Nat.reduceEqDiff, Nat.le_refl, and_self, if_true, if_false, List.drop_zero, List.drop_succ_cons, List.take_zero, List.take_succ_cons, List.take_nil, List.drop_nil, true_and, and_true, decide_true, decide_false, Nat.reduceMul, Nat.zero_mul, Nat.one_mul, Nat.mul_one]
        exact hid (by simp only [mayB, c1, Bool.true_or])
      | false =>
        simp only [RS, List.cons_append, List.nil_append, Option.isNone_some, Option.isNone_none, Option.isSome_some, Option.isSome_none, Nat.zero_add, Nat.add_zero, Nat.reduceAdd, List.getElem?_cons_zero, List.getElem?_cons_succ, List.length_cons, List.length_nil, List.all_cons, List.all_nil, Bool.and_self, Bool.and_true, Bool.true_and, Option.bind_some, Nat.reduceLeDiff, Nat.reduceEqDiff, Nat.le_refl, and_self, if_true, if_false, List.drop_zero, List.drop_succ_cons, List.take_zero, List.take_succ_cons, List.take_nil, List.drop_nil, true_and, and_true, decide_true, decide_false, Nat.reduceMul, Nat.zero_mul, Nat.one_mul, Nat.mul_one, gp, hlr, len0]
        cases c2 : decide ((s.lk n.addr).rd = []) with
        | false =>
          simp only [RS, List.cons_append, List.nil_append, Option.isNone_some, Option.isNone_none, Option.isSome_some, Option.isSome_none, Nat.zero_add, Nat.add_zero, Nat.reduceAdd, List.getElem?_cons_zero, List.getElem?_cons_succ, List.length_cons, List.length_nil, List.all_cons, List.all_nil, Bool.and_self, Bool.and_true, Bool.true_and, Option.bind_some, Nat.reduceLeDiff, Nat.reduceEqDiff, Nat.le_refl, and_self, if_true, if_false, List.drop_zero, List.drop_succ_cons, List.take_zero, List.take_succ_cons, List.take_nil, List.drop_nil, true_and, and_true, decide_true, decide_false, Nat.reduceMul, Nat.zero_mul, Nat.one_mul, Nat.mul_one, Bool.not_false]
          exact hid (by simp only [mayB, c1, LkS.idle, c2, Bool.false_and, Bool.not_false, Bool.or_true])
        | true =>
          simp only [RS, List.cons_append, List.nil_append, Option.isNone_some, Option.isNone_none, Option.isSome_some, Option.isSome_none, Nat.zero_add, Nat.add_zero, Nat.reduceAdd, List.getElem?_cons_zero, List.getElem?_cons_succ, List.length_cons, List.length_nil, List.all_cons, List.all_nil, Bool.and_self, Bool.and_true, Bool.true_and, Option.bind_some, Nat.reduceLeDiff, Nat.reduceEqDiff, Nat.le_refl, and_self, if_true, if_false, List.drop_zero, List.drop_succ_cons, List.take_zero, List.take_succ_cons, List.take_nil, List.drop_nil, true_and, and_true, decide_true, decide_false, Nat.reduceMul, Nat.zero_mul, Nat.one_mul, Nat.mul_one, Bool.not_true, gp, ge0 hlk.up.1]
          cases c3 : ((s.lk n.addr).up != 0) with
          | true =>
            have c3' : ((s.lk n.addr).up == 0) = false := by simpa [bne] using c3
            simp only [RS, List.cons_append, List.nil_append, Option.isNone_some, Option.isNone_none, Option.isSome_some, Option.isSome_none, Nat.zero_add, Nat.add_zero, Nat.reduceAdd, List.getElem?_cons_zero, List.getElem?_cons_succ, List.length_cons, List.length_nil, List.all_cons, List.all_nil, Bool.and_self, Bool.and_true, Bool.true_and, Option.bind_some, Nat.reduceLeDiff, Nat.reduceEqDiff, Nat.le_refl, and_self, if_true, if_false, List.drop_zero, List.drop_succ_cons, List.take_zero, List.take_succ_cons, List.take_nil, List.drop_nil, true_and, and_true, decide_true, decide_false, Nat.reduceMul, Nat.zero_mul, Nat.one_mul, Nat.mul_one]
            exact hid (by simp only [mayB, c1, LkS.idle, c2, c3', Bool.and_false, Bool.false_and, Bool.not_false, Bool.or_true])
          | false =>
            have c3' : ((s.lk n.addr).up == 0) = true := by simpa [bne] using c3
            simp only [RS, List.cons_append, List.nil_append, Option.isNone_some, Option.isNone_none, Option.isSome_some, Option.isSome_none, Nat.zero_add, Nat.add_zero, Nat.reduceAdd, List.getElem?_cons_zero, List.getElem?_cons_succ, List.length_cons, List.length_nil, List.all_cons, List.all_nil, Bool.and_self, Bool.and_true, Bool.true_and, Option.bind_some, Nat.reduceLeDiff, Nat.reduceEqDiff, Nat.le_refl, and_self, if_true, if_false, List.drop_zero, List.drop_succ_cons, List.take_zero, List.take_succ_cons, List.take_nil, List.drop_nil, true_and, and_true, decide_true, decide_false, Nat.reduceMul, Nat.zero_mul, Nat.one_mul, Nat.mul_one, gp, ge0 hlk.cl.1]
            exact hid (by simp only [mayB, c1, LkS.idle, c2, c3', Bool.true_and, Bool.false_or]; rfl)
    · have b16 : ((((20 : Nat) : Int)) == 16) = false := rfl
      have b17 : ((((20 : Nat) : Int)) == 17) = false := rfl
      have b18 : ((((20 : Nat) : Int)) == 18) = false := rfl
      have b19 : ((((20 : Nat) : Int)) == 19) = false := rfl
      simp only [RS, List.cons_append, List.nil_append, Option.isNone_some, Option.isNone_none, Option.isSome_some, Option.isSome_none, Nat.zero_add, Nat.add_zero, Nat.reduceAdd, List.getElem?_cons_zero, List.getElem?_cons_succ, List.length_cons, List.length_nil, List.all_cons, List.all_nil, Bool.and_self, Bool.and_true, Bool.true_and, Option.bind_some, Nat.reduceLeDiff, Nat.reduceEqDiff, Nat.le_refl, and_self, if_true, if_false, List.drop_zero, List.drop_succ_cons, List.take_zero, List.take_succ_cons, List.take_nil, List.drop_nil, true_and, and_true, decide_true, decide_false, Nat.reduceMul, Nat.zero_mul, Nat.one_mul, Nat.mul_one, b16, b17, b18, b19]
      exact base rfl fun _ => rfl
theorem rbody_ok {k : Nat} (ho : s.ok) (hn : n.ok) (ha : 0 ≤ n.addr ∧ n.addr < 4294967296) (hk : n.kind = k) (hks : k = 33 ∨ k = 34 ∨ k = 35 ∨ k = 36 ∨ k = 37) (hs : sat H (RefL r s L * F))
    (hK : ∀ H' L', sat H' (RefL r (deedS k s n) L' * F) → K (.int .i64 (fltS k s n)) H') : DS Tryz.prog Fi.laybyref37_State_body [ptr r, n.rval] H K := by
  have hflt : fltS k s n = bif mayB k s n then 0 else 3 := by rcases hks with rfl | rfl | rfl | rfl | rfl <;> rfl
  rw [hflt, deed_bif hflt] at hK
  refine use_laybyref37_State_body 0 ?_
  unfold sh_laybyref37_State_body
  obtain ⟨h1, g1⟩ := rnote_new (n := n) hs
  simp only [RS, List.cons_append, List.nil_append, Option.isNone_some, Option.isNone_none, Option.isSome_some, Option.isSome_none, Nat.zero_add, Nat.add_zero, Nat.reduceAdd, List.getElem?_cons_zero, List.getElem?_cons_succ, List.length_cons, List.length_nil, List.all_cons, List.all_nil, Bool.and_self, Bool.and_true, Bool.true_and, Option.bind_some, Nat.reduceLeDiff, Nat.reduceEqDiff, Nat.le_refl, and_self, if_true, if_false, List.drop_zero, List.drop_succ_cons, List.take_zero, List.take_succ_cons, List.take_nil, List.drop_nil, true_and, and_true, decide_true, decide_false, Nat.reduceMul, Nat.zero_mul, Nat.one_mul, Nat.mul_one, g1]
  refine at_ok ha h1 fun m H1 L' hm _ h2 => ?_
  have h3 := ref_open hm h2
  obtain ⟨vq, vr, h4⟩ := sat_plA.1 h3
  have gp := (sat_get h4).1
  have hon := ho.on n.addr
  have h5 := sat_put (.cells [.int .i64 ((s.on n.addr).by_ - 1), .bool (s.on n.addr).dn, .bool (s.on n.addr).sk] Ty.laybyref37_Once .fix) (sat_new (.cells [.int .i64 0, .bool false, .bool false] Ty.laybyref37_Once .fix) h4)
  have go := (sat_get h5).1
  have gn2 := (sat_get (sat_sub (sat_sub (sat_sub (sat_sub (sat_sub h5)))))).1
  simp only [prOf] at gp
  simp only [RS, List.cons_append, List.nil_append, Option.isNone_some, Option.isNone_none, Option.isSome_some, Option.isSome_none, Nat.zero_add, Nat.add_zero, Nat.reduceAdd, List.getElem?_cons_zero, List.getElem?_cons_succ, List.length_cons, List.length_nil, List.all_cons, List.all_nil, Bool.and_self, Bool.and_true, Bool.true_and, Option.bind_some, Nat.reduceLeDiff, Nat.reduceEqDiff, Nat.le_refl, and_self, if_true, if_false, List.drop_zero, List.drop_succ_cons, List.take_zero, List.take_succ_cons, List.take_nil, List.drop_nil, true_and, and_true, decide_true, decide_false, Nat.reduceMul, Nat.zero_mul, Nat.one_mul, Nat.mul_one, gp, get_put_eq, get_put_ne, get_new_eq, get_new_ne]
  generalize hB : (H1.new (.cells [.int .i64 0, .bool false, .bool false] Ty.laybyref37_Once .fix)).put H1.nx (.cells [.int .i64 ((s.on n.addr).by_ - 1), .bool (s.on n.addr).dn, .bool (s.on n.addr).sk] Ty.laybyref37_Once .fix) = B at h5 go gn2 ⊢
  generalize hG : (RefX r s L' n.addr * (pts H.nx (.cells n.rrow Ty.laybyref11_Note .fix) * F)) = G at h5
  refine jn_rule (fun t H' => ∃ x : OnS, t = (ptr m, ptr H1.nx, .bool (mayB k s n), ()) ∧ sat H' (pts H1.nx (.cells [.int .i64 (x.by_ - 1), .bool x.dn, .bool x.sk] Ty.laybyref37_Once .fix) * (pts m (.cells ((prOf s n.addr).row n.addr vq vr) Ty.laybyref37_place .fix) * (sliceA true vq (prOf s n.addr).q * (sliceA true vr (prOf s n.addr).rd * G)))) ∧ (mayB k s n = true → (thenS k s n) = { s with on := upd s.on n.addr x })) ?_ ?_
  · rintro t H' ⟨x, rfl, h6, hx⟩
    rw [← hG] at h6
    have g6 := (sat_get h6).1
    have gp6 := (sat_get (sat_sub h6)).1
    simp only [prOf] at gp6
    refine jn_of ?_
    simp only [RS, List.cons_append, List.nil_append, Option.isNone_some, Option.isNone_none, Option.isSome_some, Option.isSome_none, Nat.zero_add, Nat.add_zero, Nat.reduceAdd, List.getElem?_cons_zero, List.getElem?_cons_succ, List.length_cons, List.length_nil, List.all_cons, List.all_nil, Bool.and_self, Bool.and_true, Bool.true_and, Option.bind_some, Nat.reduceLeDiff, Nat.reduceEqDiff, Nat.le_refl, and_self, if_true, if_false, List.drop_zero, List.drop_succ_cons, List.take_zero, List.take_succ_cons, List.take_nil, List.drop_nil, true_and, and_true, decide_true, decide_false, Nat.reduceMul, Nat.zero_mul, Nat.one_mul, Nat.mul_one]
    cases hmay : mayB k s n with
    | true =>
      rw [hmay] at hK
      simp only [RS, List.cons_append, List.nil_append, Option.isNone_some, Option.isNone_none, Option.isSome_some, Option.isSome_none, Nat.zero_add, Nat.add_zero, Nat.reduceAdd, List.getElem?_cons_zero, List.getElem?_cons_succ, List.length_cons, List.length_nil, List.all_cons, List.all_nil, Bool.and_self, Bool.and_true, Bool.true_and, Option.bind_some, Nat.reduceLeDiff, Nat.reduceEqDiff, Nat.le_refl, and_self, if_true, if_false, List.drop_zero, List.drop_succ_cons, List.take_zero, List.take_succ_cons, List.take_nil, List.drop_nil, true_and, and_true, decide_true, decide_false, Nat.reduceMul, Nat.zero_mul, Nat.one_mul, Nat.mul_one, g6, gp6]
      refine fault_ok ?_
      have h7 := sat_put (.cells (({ prOf s n.addr with by_ := x.by_ - 1, dn := x.dn, sk := x.sk } : PR).row n.addr vq vr) Ty.laybyref37_place .fix) (sat_sub h6)
      refine hK _ L' (rnote_drop (n := n) (ref_close hm (sat_plA.2 ⟨vq, vr, h7⟩) ?_ (fun b hb => ?_) ?_ ?_ ?_))
      · rw [hx hmay]; exact prOf_on.trans (if_pos rfl)
      · rw [hx hmay]; exact prOf_on.trans (if_neg hb)
      · rw [hx hmay]; rfl
      · rw [hx hmay]; rfl
      · rw [hx hmay]; rfl
    | false =>
      rw [hmay] at hK
      simp only [RS, List.cons_append, List.nil_append, Option.isNone_some, Option.isNone_none, Option.isSome_some, Option.isSome_none, Nat.zero_add, Nat.add_zero, Nat.reduceAdd, List.getElem?_cons_zero, List.getElem?_cons_succ, List.length_cons, List.length_nil, List.all_cons, List.all_nil, Bool.and_self, Bool.and_true, Bool.true_and, Option.bind_some, Nat.reduceLeDiff, Nat.reduceEqDiff, Nat.le_refl, and_self, if_true, if_false, List.drop_zero, List.drop_succ_cons, List.take_zero, List.take_succ_cons, List.take_nil, List.drop_nil, true_and, and_true, decide_true, decide_false, Nat.reduceMul, Nat.zero_mul, Nat.one_mul, Nat.mul_one]
      refine fault_ok ?_
      exact hK _ L' (rnote_drop (n := n) (ref_close hm (sat_plA.2 ⟨vq, vr, sat_sub h6⟩) rfl (fun b hb => rfl) rfl rfl rfl))
  · intro R hR
    have base := fun {x : OnS} {b : Bool} (hb : mayB k s n = b) (hx : mayB k s n = true → thenS k s n = { s with on := upd s.on n.addr x }) => hR (ptr m, ptr H1.nx, .bool b, ()) (B.put H1.nx (.cells [.int .i64 (x.by_ - 1), .bool x.dn, .bool x.sk] Ty.laybyref37_Once .fix)) ⟨x, by rw [hb], sat_put _ h5, hx⟩
    have same := fun {b : Bool} (hb : mayB k s n = b) (hx : thenS k s n = s) => hR (ptr m, ptr H1.nx, .bool b, ()) B ⟨s.on n.addr, by rw [hb], h5, fun _ => by rw [hx]; exact (upd_on_id s n.addr).symm⟩
    simp only [RS, List.cons_append, List.nil_append, Option.isNone_some, Option.isNone_none, Option.isSome_some, Option.isSome_none, Nat.zero_add, Nat.add_zero, Nat.reduceAdd, List.getElem?_cons_zero, List.getElem?_cons_succ, List.length_cons, List.length_nil, List.all_cons, List.all_nil, Bool.and_self, Bool.and_true, Bool.true_and, Option.bind_some, Nat.reduceLeDiff, Nat.reduceEqDiff, Nat.le_refl, and_self, if_true, if_false, List.drop_zero, List.drop_succ_cons, List.take_zero, List.take_succ_cons, List.take_nil, List.drop_nil, true_and, and_true, decide_true, decide_false, Nat.reduceMul, Nat.zero_mul, Nat.one_mul, Nat.mul_one, gn2, hk]
    rcases hks with rfl | rfl | rfl | rfl | rfl
    · have b33 : ((((33 : Nat) : Int)) == 33) = true := rfl
      simp only [RS, List.cons_append, List.nil_append, Option.isNone_some, Option.isNone_none, Option.isSome_some, Option.isSome_none, Nat.zero_add, Nat.add_zero, Nat.reduceAdd, List.getElem?_cons_zero, List.getElem?_cons_succ, List.length_cons, List.length_nil, List.all_cons, List.all_nil, Bool.and_self, Bool.and_true, Bool.true_and, Option.bind_some, Nat.reduceLeDiff, Nat.reduceEqDiff, Nat.le_refl, and_self, if_true, if_false, List.drop_zero, List.drop_succ_cons, List.take_zero, List.take_succ_cons, List.take_nil, List.drop_nil, true_and, and_true, decide_true, decide_false, Nat.reduceMul, Nat.zero_mul, Nat.one_mul, Nat.mul_one, b33, go, lt0 hon.1]
      have e1 : n.thread + 1 - 1 = n.thread := by omega
      have fin : ∀ {b : Bool}, mayB 33 s n = b → R (ptr m, ptr H1.nx, .bool b, ()) (B.put H1.nx (.cells [.int .i64 n.thread, .bool false, .bool false] Ty.laybyref37_Once .fix)) := fun hb => by
        have := base (x := ⟨n.thread + 1, false, false⟩) hb fun _ => rfl
        simp only [e1] at this
        exact this
      cases c1 : ((s.on n.addr).by_ == 0) with
      | true =>
        simp only [RS, List.cons_append, List.nil_append, Option.isNone_some, Option.isNone_none, Option.isSome_some, Option.isSome_none, Nat.zero_add, Nat.add_zero, Nat.reduceAdd, List.getElem?_cons_zero, List.getElem?_cons_succ, List.length_cons, List.length_nil, List.all_cons, List.all_nil, Bool.and_self, Bool.and_true, Bool.true_and, Option.bind_some, Nat.reduceLeDiff, Nat.reduceEqDiff, Nat.le_refl, and_self, if_true, if_false, List.drop_zero, List.drop_succ_cons, List.take_zero, List.take_succ_cons, List.take_nil, List.drop_nil, true_and, and_true, decide_true, decide_false, Nat.reduceMul, Nat.zero_mul, Nat.one_mul, Nat.mul_one, go, gn2]
        exact fin (by simp only [mayB, c1, Bool.true_and])
      | false =>
        simp only [RS, List.cons_append, List.nil_append, Option.isNone_some, Option.isNone_none, Option.isSome_some, Option.isSome_none, Nat.zero_add, Nat.add_zero, Nat.reduceAdd, List.getElem?_cons_zero, List.getElem?_cons_succ, List.length_cons, List.length_nil, List.all_cons, List.all_nil, Bool.and_self, Bool.and_true, Bool.true_and, Option.bind_some, Nat.reduceLeDiff, Nat.reduceEqDiff, Nat.le_refl, and_self, if_true, if_false, List.drop_zero, List.drop_succ_cons, List.take_zero, List.take_succ_cons, List.take_nil, List.drop_nil, true_and, and_true, decide_true, decide_false, Nat.reduceMul, Nat.zero_mul, Nat.one_mul, Nat.mul_one, go, gn2]
        exact fin (by simp only [mayB, c1, Bool.false_and])
    · have b33 : ((((34 : Nat) : Int)) == 33) = false := rfl
      have b34 : ((((34 : Nat) : Int)) == 34) = true := rfl
      simp only [RS, List.cons_append, List.nil_append, Option.isNone_some, Option.isNone_none, Option.isSome_some, Option.isSome_none, Nat.zero_add, Nat.add_zero, Nat.reduceAdd, List.getElem?_cons_zero, List.getElem?_cons_succ, List.length_cons, List.length_nil, List.all_cons, List.all_nil, Bool.and_self, Bool.and_true, Bool.true_and, Option.bind_some, Nat.reduceLeDiff, Nat.reduceEqDiff, Nat.le_refl, and_self, if_true, if_false, List.drop_zero, List.drop_succ_cons, List.take_zero, List.take_succ_cons, List.take_nil, List.drop_nil, true_and, and_true, decide_true, decide_false, Nat.reduceMul, Nat.zero_mul, Nat.one_mul, Nat.mul_one, b33, b34, go, gn2, eqm]
      exact base (x := ⟨0, true, false⟩) rfl fun _ => rfl
    · have b33 : ((((35 : Nat) : Int)) == 33) = false := rfl
      have b34 : ((((35 : Nat) : Int)) == 34) = false := rfl
      have b35 : ((((35 : Nat) : Int)) == 35) = true := rfl
      simp only [RS, List.cons_append, List.nil_append, Option.isNone_some, Option.isNone_none, Option.isSome_some, Option.isSome_none, Nat.zero_add, Nat.add_zero, Nat.reduceAdd, List.getElem?_cons_zero, List.getElem?_cons_succ, List.length_cons, List.length_nil, List.all_cons, List.all_nil, Bool.and_self, Bool.and_true, Bool.true_and, Option.bind_some, Nat.reduceLeDiff, Nat.reduceEqDiff, Nat.le_refl, and_self, if_true, if_false, List.drop_zero, List.drop_succ_cons, List.take_zero, List.take_succ_cons, List.take_nil, List.drop_nil, true_and, and_true, decide_true, decide_false, Nat.reduceMul, Nat.zero_mul, Nat.one_mul, Nat.mul_one, b33, b34, b35, go, gn2, eqm]
      exact base (x := ⟨0, false, true⟩) rfl fun _ => rfl
    · have b33 : ((((36 : Nat) : Int)) == 33) = false := rfl
      have b34 : ((((36 : Nat) : Int)) == 34) = false := rfl
      have b35 : ((((36 : Nat) : Int)) == 35) = false := rfl
      have b36 : ((((36 : Nat) : Int)) == 36) = true := rfl
      simp only [RS, List.cons_append, List.nil_append, Option.isNone_some, Option.isNone_none, Option.isSome_some, Option.isSome_none, Nat.zero_add, Nat.add_zero, Nat.reduceAdd, List.getElem?_cons_zero, List.getElem?_cons_succ, List.length_cons, List.length_nil, List.all_cons, List.all_nil, Bool.and_self, Bool.and_true, Bool.true_and, Option.bind_some, Nat.reduceLeDiff, Nat.reduceEqDiff, Nat.le_refl, and_self, if_true, if_false, List.drop_zero, List.drop_succ_cons, List.take_zero, List.take_succ_cons, List.take_nil, List.drop_nil, true_and, and_true, decide_true, decide_false, Nat.reduceMul, Nat.zero_mul, Nat.one_mul, Nat.mul_one, b33, b34, b35, b36, go]
      exact same rfl rfl
    · have b33 : ((((37 : Nat) : Int)) == 33) = false := rfl
      have b34 : ((((37 : Nat) : Int)) == 34) = false := rfl
      have b35 : ((((37 : Nat) : Int)) == 35) = false := rfl
      have b36 : ((((37 : Nat) : Int)) == 36) = false := rfl
      simp only [RS, List.cons_append, List.nil_append, Option.isNone_some, Option.isNone_none, Option.isSome_some, Option.isSome_none, Nat.zero_add, Nat.add_zero, Nat.reduceAdd, List.getElem?_cons_zero, List.getElem?_cons_succ, List.length_cons, List.length_nil, List.all_cons, List.all_nil, Bool.and_self, Bool.and_true, Bool.true_and, Option.bind_some, Nat.reduceLeDiff, Nat.reduceEqDiff, Nat.le_refl, and_self, if_true, if_false, List.drop_zero, List.drop_succ_cons, List.take_zero, List.take_succ_cons, List.take_nil, List.drop_nil, true_and, and_true, decide_true, decide_false, Nat.reduceMul, Nat.zero_mul, Nat.one_mul, Nat.mul_one, b33, b34, b35, b36, go]
      exact same rfl rfl
end
end Go.Proofs.YtiolnpeniklhiaaGreatDoor
