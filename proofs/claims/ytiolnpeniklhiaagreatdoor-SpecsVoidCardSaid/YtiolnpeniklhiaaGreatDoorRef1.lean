/- The document's answer: lists of numbers; names of kinds.
   Conditions: what stands in memory, as each states it. -/
import Derived.Test.YtiolnpeniklhiaaGreatDoorSpec13
import Derived.Test.YtiolnpeniklhiaaGreatDoorAbTab
namespace Go.Proofs.YtiolnpeniklhiaaGreatDoor
open Go Go.Ab
set_option linter.all false
set_option maxRecDepth 100000
section
variable {H : AH} {F : SL} {K : KV}
theorem rhas_ok {v : Value} {xs : List Int} {t : Int} (hr : RowI H v xs) (hl : xs.length < 1000000) (hK : K (.bool (decide (t ∈ xs))) H) : DS Tryz.prog Fi.laybyref37_has [v, .int .i64 t] H K := by
  refine use_laybyref37_has (xs.length + 2) ?_
  unfold sh_laybyref37_has
  simp only [RS, List.cons_append, List.nil_append, Option.isNone_some, Option.isNone_none, Option.isSome_some, Option.isSome_none, Nat.zero_add, Nat.add_zero, Nat.reduceAdd, List.getElem?_cons_zero, List.getElem?_cons_succ, List.length_cons, List.length_nil, List.all_cons, List.all_nil, Bool.and_self, Bool.and_true, Bool.true_and, Option.bind_some, Nat.reduceLeDiff, Nat.reduceEqDiff, Nat.le_refl, and_self, if_true, if_false, List.drop_zero, List.drop_succ_cons, List.take_zero, List.take_succ_cons, List.take_nil, List.drop_nil, true_and, and_true, decide_true, decide_false, Nat.reduceMul, Nat.zero_mul, Nat.one_mul, Nat.mul_one]
  refine lp_rule (fun n s H1 => ∃ i : Nat, i ≤ xs.length ∧ xs.length < n + i ∧ t ∉ xs.take i ∧ s = (v, .int .i64 t, .int .i64 (i : Int), ()) ∧ H1 = H) ?_ ?_ ⟨0, by omega, by omega, by simp, rfl, rfl⟩
  · rintro n s H1 ⟨i, hi, hn, hno, rfl, rfl⟩ R hR
    by_cases hil : i < xs.length
    · have hd : decide ((i : Int) < (xs.length : Int)) = true := by simpa using hil
      obtain ⟨x, hx⟩ : ∃ x, xs[i]? = some x := ⟨_, List.getElem?_eq_getElem hil⟩
      obtain ⟨p, e1, e2⟩ := hr.at0 i x hx
      simp only [RS, List.cons_append, List.nil_append, Option.isNone_some, Option.isNone_none, Option.isSome_some, Option.isSome_none, Nat.zero_add, Nat.add_zero, Nat.reduceAdd, List.getElem?_cons_zero, List.getElem?_cons_succ, List.length_cons, List.length_nil, List.all_cons, List.all_nil, Bool.and_self, Bool.and_true, Bool.true_and, Option.bind_some, Nat.reduceLeDiff, Nat.reduceEqDiff, Nat.le_refl, and_self, if_true, if_false, List.drop_zero, List.drop_succ_cons, List.take_zero, List.take_succ_cons, List.take_nil, List.drop_nil, true_and, and_true, decide_true, decide_false, Nat.reduceMul, Nat.zero_mul, Nat.one_mul, Nat.mul_one, hr.len, hd, e1, e2]
      by_cases he : t = x
      · have hb : (x == t) = true := by simpa using he.symm
        have hm : decide (t ∈ xs) = true := by rw [decide_eq_true_iff, he]; exact List.mem_of_getElem? hx
        rw [hm] at hK
        simp only [hb, RS, List.cons_append, List.nil_append, Option.isNone_some, Option.isNone_none, Option.isSome_some, Option.isSome_none, Nat.zero_add, Nat.add_zero, Nat.reduceAdd, List.getElem?_cons_zero, List.getElem?_cons_succ, List.length_cons, List.length_nil, List.all_cons, List.all_nil, Bool.and_self, Bool.and_true, Bool.true_and, Option.bind_some, Nat.reduceLeDiff, Nat.reduceEqDiff, Nat.le_refl, and_self, if_true, if_false, List.drop_zero, List.drop_succ_cons, List.take_zero, List.take_succ_cons, List.take_nil, List.drop_nil, true_and, and_true, decide_true, decide_false, Nat.reduceMul, Nat.zero_mul, Nat.one_mul, Nat.mul_one]
        exact hK
      · have hb : (x == t) = false := by simpa using fun e => he e.symm
        simp only [hb, RS, List.cons_append, List.nil_append, Option.isNone_some, Option.isNone_none, Option.isSome_some, Option.isSome_none, Nat.zero_add, Nat.add_zero, Nat.reduceAdd, List.getElem?_cons_zero, List.getElem?_cons_succ, List.length_cons, List.length_nil, List.all_cons, List.all_nil, Bool.and_self, Bool.and_true, Bool.true_and, Option.bind_some, Nat.reduceLeDiff, Nat.reduceEqDiff, Nat.le_refl, and_self, if_true, if_false, List.drop_zero, List.drop_succ_cons, List.take_zero, List.take_succ_cons, List.take_nil, List.drop_nil, true_and, and_true, decide_true, decide_false, Nat.reduceMul, Nat.zero_mul, Nat.one_mul, Nat.mul_one, w64s (show i < 1000000000 by omega)]
        exact hR _ _ ⟨i + 1, by omega, by omega, notin_snoc hno hx he, rfl, rfl⟩
    · have hd : decide ((i : Int) < (xs.length : Int)) = false := by simpa using hil
      rw [List.take_of_length_le (by omega)] at hno
      have hm : decide (t ∈ xs) = false := by simpa using hno
      rw [hm] at hK
      simp only [RS, List.cons_append, List.nil_append, Option.isNone_some, Option.isNone_none, Option.isSome_some, Option.isSome_none, Nat.zero_add, Nat.add_zero, Nat.reduceAdd, List.getElem?_cons_zero, List.getElem?_cons_succ, List.length_cons, List.length_nil, List.all_cons, List.all_nil, Bool.and_self, Bool.and_true, Bool.true_and, Option.bind_some, Nat.reduceLeDiff, Nat.reduceEqDiff, Nat.le_refl, and_self, if_true, if_false, List.drop_zero, List.drop_succ_cons, List.take_zero, List.take_succ_cons, List.take_nil, List.drop_nil, true_and, and_true, decide_true, decide_false, Nat.reduceMul, Nat.zero_mul, Nat.one_mul, Nat.mul_one, hr.len, hd]
      exact hK
  · rintro s H1 ⟨i, h1, h2, -⟩; omega
theorem app_nil {x : Bool} {v : Value} {xs : List Int} (h : sat H (sliceA x v xs * F)) (hl : xs.length < 1000000) : ∃ v' H', appS 1 8 Ty.int (.slice none 0 0) v H = some (v', H') ∧ sat H' (sliceA true v' xs * (sliceA x v xs * F)) := by
  rcases sat_slice.1 h with ⟨rfl, rfl, h3⟩ | ⟨m, e, k, rfl, hrw, he, h4⟩
  · exact ⟨.slice none 0 0, H, rfl, slice_nil h⟩
  · have g := (sat_get h4).1
    have hs : srcS 1 (.slice (some ⟨m, 0, none⟩) xs.length (xs.length + e.length)) H = some (ints xs, xs.length) := srcS_row g
    cases xs with
    | nil =>
      refine ⟨.slice none 0 0, H, ?_, slice_nil h⟩
      rw [appS, hs]
      rfl
    | cons y ys =>
      generalize hxs : y :: ys = xs at *
      have hpos : 0 < xs.length := by rw [← hxs]; simp
      have e1 : Nat.beq xs.length 0 = false := by
        cases hq : Nat.beq xs.length 0 with
        | false => rfl
        | true => rw [Nat.beq_eq] at hq; omega
      have e2 : Nat.ble ((2 * xs.length + 1024) * 8) (2 ^ 48) = true := by rw [Nat.ble_eq]; omega
      refine ⟨.slice (some ⟨H.nx, 0, none⟩) xs.length xs.length, H.new (.cells (ints xs) Ty.int .opn), ?_, ?_⟩
      · rw [appS, hs]
        simp only [ints_plain, cond_true, show Nat.beq 0 0 = true from rfl, Bool.and_self, e1, cond_false, e2]
      · exact sat_slice.2 (.inr ⟨H.nx, [], .opn, rfl, rfl, fun _ => rfl, by rw [List.append_nil]; exact sat_new _ h⟩)
theorem with_ok {x : Bool} {v : Value} {xs : List Int} {t : Int} (h : sat H (sliceA x v xs * F)) (hl : xs.length < 1000000) (hK : ∀ v' H', sat H' (sliceA true v' (xs ++ [t]) * (sliceA x v xs * F)) → K v' H') : DS Tryz.prog Fi.laybyref37_with [v, .int .i64 t] H K := by
  refine use_laybyref37_with 0 ?_
  unfold sh_laybyref37_with
  obtain ⟨w, H1, e1, h1⟩ := app_nil h hl
  have h2 : sat (H1.new (.cells [.int .i64 t] Ty.int .fix)) (sliceA true w xs * (pts H1.nx (.cells [.int .i64 t] Ty.int .fix) * (sliceA x v xs * F))) := sat_of_eq (sat_new _ h1) (by ac_rfl)
  obtain ⟨w2, H2, e2, h3⟩ := app1_ok h2 hl
  simp only [RS, List.cons_append, List.nil_append, Option.isNone_some, Option.isNone_none, Option.isSome_some, Option.isSome_none, Nat.zero_add, Nat.add_zero, Nat.reduceAdd, List.getElem?_cons_zero, List.getElem?_cons_succ, List.length_cons, List.length_nil, List.all_cons, List.all_nil, Bool.and_self, Bool.and_true, Bool.true_and, Option.bind_some, Nat.reduceLeDiff, Nat.reduceEqDiff, Nat.le_refl, and_self, if_true, if_false, List.drop_zero, List.drop_succ_cons, List.take_zero, List.take_succ_cons, List.take_nil, List.drop_nil, true_and, and_true, decide_true, decide_false, Nat.reduceMul, Nat.zero_mul, Nat.one_mul, Nat.mul_one, e1, e2]
  exact hK _ _ (sat_sub (A := pts H1.nx (.cells [.int .i64 t] Ty.int .fix)) (sat_of_eq h3 (by ac_rfl)))
theorem without_ok {x : Bool} {v : Value} {xs : List Int} {t : Int} (h : sat H (sliceA x v xs * F)) (hl : xs.length < 1000000) (hK : ∀ v' H', sat H' (sliceA true v' (wo t xs) * (sliceA x v xs * F)) → K v' H') : DS Tryz.prog Fi.laybyref37_without [v, .int .i64 t] H K := by
  refine use_laybyref37_without (xs.length + 2) ?_
  unfold sh_laybyref37_without
  simp only [RS, List.cons_append, List.nil_append, Option.isNone_some, Option.isNone_none, Option.isSome_some, Option.isSome_none, Nat.zero_add, Nat.add_zero, Nat.reduceAdd, List.getElem?_cons_zero, List.getElem?_cons_succ, List.length_cons, List.length_nil, List.all_cons, List.all_nil, Bool.and_self, Bool.and_true, Bool.true_and, Option.bind_some, Nat.reduceLeDiff, Nat.reduceEqDiff, Nat.le_refl, and_self, if_true, if_false, List.drop_zero, List.drop_succ_cons, List.take_zero, List.take_succ_cons, List.take_nil, List.drop_nil, true_and, and_true, decide_true, decide_false, Nat.reduceMul, Nat.zero_mul, Nat.one_mul, Nat.mul_one]
  refine lp_rule (fun n s H1 => ∃ (i : Nat) (w : Value), i ≤ xs.length ∧ xs.length < n + i ∧ s = (v, .int .i64 t, w, .int .i64 (i : Int), ()) ∧ sat H1 (sliceA true w (wo t (xs.take i)) * (sliceA x v xs * F))) ?_ ?_
    ⟨0, .slice none 0 0, by omega, by omega, rfl, slice_nil h⟩
  · rintro n s H1 ⟨i, w, hi, hn, rfl, h1⟩ R hR
    have hr := slice_row (sat_sub h1)
    by_cases hil : i < xs.length
    · have hd : decide ((i : Int) < (xs.length : Int)) = true := by simpa using hil
      obtain ⟨y, hy⟩ : ∃ y, xs[i]? = some y := ⟨_, List.getElem?_eq_getElem hil⟩
      obtain ⟨p, e1, e2⟩ := hr.at0 i y hy
      simp only [RS, List.cons_append, List.nil_append, Option.isNone_some, Option.isNone_none, Option.isSome_some, Option.isSome_none, Nat.zero_add, Nat.add_zero, Nat.reduceAdd, List.getElem?_cons_zero, List.getElem?_cons_succ, List.length_cons, List.length_nil, List.all_cons, List.all_nil, Bool.and_self, Bool.and_true, Bool.true_and, Option.bind_some, Nat.reduceLeDiff, Nat.reduceEqDiff, Nat.le_refl, and_self, if_true, if_false, List.drop_zero, List.drop_succ_cons, List.take_zero, List.take_succ_cons, List.take_nil, List.drop_nil, true_and, and_true, decide_true, decide_false, Nat.reduceMul, Nat.zero_mul, Nat.one_mul, Nat.mul_one, hr.len, hd]
      refine jn_of ?_
      simp only [RS, List.cons_append, List.nil_append, Option.isNone_some, Option.isNone_none, Option.isSome_some, Option.isSome_none, Nat.zero_add, Nat.add_zero, Nat.reduceAdd, List.getElem?_cons_zero, List.getElem?_cons_succ, List.length_cons, List.length_nil, List.all_cons, List.all_nil, Bool.and_self, Bool.and_true, Bool.true_and, Option.bind_some, Nat.reduceLeDiff, Nat.reduceEqDiff, Nat.le_refl, and_self, if_true, if_false, List.drop_zero, List.drop_succ_cons, List.take_zero, List.take_succ_cons, List.take_nil, List.drop_nil, true_and, and_true, decide_true, decide_false, Nat.reduceMul, Nat.zero_mul, Nat.one_mul, Nat.mul_one, e1, e2]
      by_cases he : y = t
      · have hb : (y != t) = false := by simp [he]
        simp only [hb, RS, List.cons_append, List.nil_append, Option.isNone_some, Option.isNone_none, Option.isSome_some, Option.isSome_none, Nat.zero_add, Nat.add_zero, Nat.reduceAdd, List.getElem?_cons_zero, List.getElem?_cons_succ, List.length_cons, List.length_nil, List.all_cons, List.all_nil, Bool.and_self, Bool.and_true, Bool.true_and, Option.bind_some, Nat.reduceLeDiff, Nat.reduceEqDiff, Nat.le_refl, and_self, if_true, if_false, List.drop_zero, List.drop_succ_cons, List.take_zero, List.take_succ_cons, List.take_nil, List.drop_nil, true_and, and_true, decide_true, decide_false, Nat.reduceMul, Nat.zero_mul, Nat.one_mul, Nat.mul_one, w64s (show i < 1000000000 by omega)]
        refine hR _ _ ⟨i + 1, w, by omega, by omega, rfl, ?_⟩
        rw [wo_take hy, if_pos he, List.append_nil]; exact h1
      · have hb : (y != t) = true := by simpa using he
        have h2 : sat (H1.new (.cells [.int .i64 y] Ty.int .fix)) (sliceA true w (wo t (xs.take i)) * (pts H1.nx (.cells [.int .i64 y] Ty.int .fix) * (sliceA x v xs * F))) := sat_of_eq (sat_new _ h1) (by ac_rfl)
        obtain ⟨w2, H2, e3, h3⟩ := app1_ok h2 (by have := wo_len t (xs.take i); simp at this; omega)
        simp only [hb, RS, List.cons_append, List.nil_append, Option.isNone_some, Option.isNone_none, Option.isSome_some, Option.isSome_none, Nat.zero_add, Nat.add_zero, Nat.reduceAdd, List.getElem?_cons_zero, List.getElem?_cons_succ, List.length_cons, List.length_nil, List.all_cons, List.all_nil, Bool.and_self, Bool.and_true, Bool.true_and, Option.bind_some, Nat.reduceLeDiff, Nat.reduceEqDiff, Nat.le_refl, and_self, if_true, if_false, List.drop_zero, List.drop_succ_cons, List.take_zero, List.take_succ_cons, List.take_nil, List.drop_nil, true_and, and_true, decide_true, decide_false, Nat.reduceMul, Nat.zero_mul, Nat.one_mul, Nat.mul_one, e1, e2, e3, w64s (show i < 1000000000 by omega)]
        refine hR _ _ ⟨i + 1, w2, by omega, by omega, rfl, ?_⟩
        rw [wo_take hy, if_neg he]
        exact sat_sub (A := pts H1.nx (.cells [.int .i64 y] Ty.int .fix)) (sat_of_eq h3 (by ac_rfl))
    · have hd : decide ((i : Int) < (xs.length : Int)) = false := by simpa using hil
      rw [List.take_of_length_le (by omega)] at h1
      simp only [RS, List.cons_append, List.nil_append, Option.isNone_some, Option.isNone_none, Option.isSome_some, Option.isSome_none, Nat.zero_add, Nat.add_zero, Nat.reduceAdd, List.getElem?_cons_zero, List.getElem?_cons_succ, List.length_cons, List.length_nil, List.all_cons, List.all_nil, Bool.and_self, Bool.and_true, Bool.true_and, Option.bind_some, Nat.reduceLeDiff, Nat.reduceEqDiff, Nat.le_refl, and_self, if_true, if_false, List.drop_zero, List.drop_succ_cons, List.take_zero, List.take_succ_cons, List.take_nil, List.drop_nil, true_and, and_true, decide_true, decide_false, Nat.reduceMul, Nat.zero_mul, Nat.one_mul, Nat.mul_one, hr.len, hd]
      exact hK _ _ h1
  · rintro s H1 ⟨i, w, h1, h2, -⟩; omega
theorem rthreaded_ok {t : Int} (hK : K (.bool (thr t)) H) : DS Tryz.prog Fi.laybyref37_threaded [.int .i64 t] H K := by
  refine use_laybyref37_threaded 0 ?_
  unfold sh_laybyref37_threaded
  have e : decide (t ≤ 63) = decide (t < 64) := by
    by_cases h : t < 64
    · rw [decide_eq_true h, decide_eq_true (by omega)]
    · rw [decide_eq_false h, decide_eq_false (by omega)]
  simp only [RS, List.cons_append, List.nil_append, Option.isNone_some, Option.isNone_none, Option.isSome_some, Option.isSome_none, Nat.zero_add, Nat.add_zero, Nat.reduceAdd, List.getElem?_cons_zero, List.getElem?_cons_succ, List.length_cons, List.length_nil, List.all_cons, List.all_nil, Bool.and_self, Bool.and_true, Bool.true_and, Option.bind_some, Nat.reduceLeDiff, Nat.reduceEqDiff, Nat.le_refl, and_self, if_true, if_false, List.drop_zero, List.drop_succ_cons, List.take_zero, List.take_succ_cons, List.take_nil, List.drop_nil, true_and, and_true, decide_true, decide_false, Nat.reduceMul, Nat.zero_mul, Nat.one_mul, Nat.mul_one]
  unfold thr at hK
  cases h : decide (t ≥ 0) <;> rw [h] at hK <;> (try simp only [RS, List.cons_append, List.nil_append, Option.isNone_some, Option.isNone_none, Option.isSome_some, Option.isSome_none, Nat.zero_add, Nat.add_zero, Nat.reduceAdd, List.getElem?_cons_zero, List.getElem?_cons_succ, List.length_cons, List.length_nil, List.all_cons, List.all_nil, Bool.and_self, Bool.and_true, Bool.true_and, Option.bind_some, Nat.reduceLeDiff, Nat.reduceEqDiff, Nat.le_refl, and_self, if_true, if_false, List.drop_zero, List.drop_succ_cons, List.take_zero, List.take_succ_cons, List.take_nil, List.drop_nil, true_and, and_true, decide_true, decide_false, Nat.reduceMul, Nat.zero_mul, Nat.one_mul, Nat.mul_one, e]) <;> exact hK
theorem fault_ok {b : Bool} {f : Int} (hK : K (.int .i64 (bif b then 0 else f)) H) : DS Tryz.prog Fi.laybyref37_fault [.bool b, .int .i64 f] H K := by
  refine use_laybyref37_fault 0 ?_
  unfold sh_laybyref37_fault
  cases b <;> simp only [RS, List.cons_append, List.nil_append, Option.isNone_some, Option.isNone_none, Option.isSome_some, Option.isSome_none, Nat.zero_add, Nat.add_zero, Nat.reduceAdd, List.getElem?_cons_zero, List.getElem?_cons_succ, List.length_cons, List.length_nil, List.all_cons, List.all_nil, Bool.and_self, Bool.and_true, Bool.true_and, Option.bind_some, Nat.reduceLeDiff, Nat.reduceEqDiff, Nat.le_refl, and_self, if_true, if_false, List.drop_zero, List.drop_succ_cons, List.take_zero, List.take_succ_cons, List.take_nil, List.drop_nil, true_and, and_true, decide_true, decide_false, Nat.reduceMul, Nat.zero_mul, Nat.one_mul, Nat.mul_one] <;> exact hK
/-- A name's test. -/
def vTest (k : Nat) : Value → Bool
  | .string b => (b.data.toList == []) == !valid k
  | _ => false
noncomputable def lvs : Nat → Prop
  | 0 => True
  | n + 1 => lev Tryz.prog (mtOf Tryz.prog) tab 100 20 Fi.laybyref11_Name [.int .i64 n] ⟨.nil, Tryz.prog.globals.size⟩ (fun v _ => vTest n v = true ∧ bare v = true) ∧ lvs n
def tts : Nat → Prop
  | 0 => True
  | n + 1 => (true = true ∧ true = true) ∧ tts n
theorem tts_ok : ∀ n, tts n
  | 0 => trivial
  | n + 1 => ⟨⟨rfl, rfl⟩, tts_ok n⟩
theorem lvs_ok : lvs 38 := Eq.mpr (by kernel_rfl : lvs 38 = tts 38) (tts_ok 38)
theorem lvs_at : ∀ {n : Nat}, lvs n → ∀ {k : Nat}, k < n → lev Tryz.prog (mtOf Tryz.prog) tab 100 20 Fi.laybyref11_Name [.int .i64 k] ⟨.nil, Tryz.prog.globals.size⟩ (fun v _ => vTest k v = true ∧ bare v = true)
  | 0, _, k, hk => by omega
  | n + 1, h, k, hk => by
    by_cases e : k = n
    · subst e; exact h.1
    · exact lvs_at h.2 (by omega)
theorem RName_ok {k : Nat} (hk : k < 256) (hK : ∀ b : ByteArray, (b.data.toList == []) = !valid k → K (.string b) H) : DS Tryz.prog Fi.laybyref11_Name [.int .i64 k] H K := by
  by_cases hb : k < 38
  · refine DS.closed (Q := fun v => vTest k v = true) ((tab_sound _ _).ds (lvs_at lvs_ok hb)) rfl fun v hv => ?_
    cases v <;> first
      | (rename_i b; exact hK b (by simpa [vTest] using hv))
      | (simp [vTest] at hv)
  · refine use_laybyref11_Name 0 ?_
    unfold sh_laybyref11_Name
    have h1 : decide ((k : Int) < 0) = false := decide_eq_false (by omega)
    have h2 : decide ((k : Int) > 37) = true := decide_eq_true (by omega)
    simp only [RS, List.cons_append, List.nil_append, Option.isNone_some, Option.isNone_none, Option.isSome_some, Option.isSome_none, Nat.zero_add, Nat.add_zero, Nat.reduceAdd, List.getElem?_cons_zero, List.getElem?_cons_succ, List.length_cons, List.length_nil, List.all_cons, List.all_nil, Bool.and_self, Bool.and_true, Bool.true_and, Option.bind_some, Nat.reduceLeDiff, Nat.reduceEqDiff, Nat.le_refl, and_self, if_true, if_false, List.drop_zero, List.drop_succ_cons, List.take_zero, List.take_succ_cons, List.take_nil, List.drop_nil, true_and, and_true, decide_true, decide_false, Nat.reduceMul, Nat.zero_mul, Nat.one_mul, Nat.mul_one, h1, h2]
    refine hK _ ?_
    have : valid k = false := by
      unfold valid
      have a1 : decide (k ≤ 5) = false := decide_eq_false (by omega)
      have a2 : decide (k ≤ 37) = false := decide_eq_false (by omega)
      rw [a1, a2]; simp
    rw [this]; rfl
end
end Go.Proofs.YtiolnpeniklhiaaGreatDoor
