/- The document's cells: contracts of laybyref02.
   Conditions: what stands in memory, as each states it. -/
import Derived.Test.YtiolnpeniklhiaaCellsB
namespace Go.Proofs.Ytiolnpeniklhiaa
open Go Go.Ab
set_option linter.all false
set_option maxRecDepth 100000

abbrev WL := List (Int × Int)
def rowW (p : Int × Int) : List Value := [.int .u32 p.1, .int .u64 p.2]
def flatW (L : WL) : List Value := (L.map rowW).flatten
def getL (L : WL) (k : Int) : Int := match L.find? (fun p => p.1 == k) with | some p => p.2 | none => 0
structure LstOK (L : WL) (f : Int → Int) : Prop where
  srt : L.Pairwise (fun p q => p.1 < q.1)
  nz : ∀ p ∈ L, p.2 ≠ 0
  val : ∀ k, f k = getL L k
theorem rows2 (L : WL) : ∀ r ∈ L.map rowW, r.length = 2 := by
  intro r hr
  obtain ⟨x, -, rfl⟩ := List.mem_map.1 hr
  rfl
theorem flatW_len (L : WL) : (flatW L).length = L.length * 2 := by simpa [flatW] using flat_len (rows2 L)
theorem flatW_get {L : WL} {i : Nat} {p : Int × Int} (h : L[i]? = some p) {j : Nat} (hj : j < 2) : (flatW L)[i * 2 + j]? = (rowW p)[j]? := by
  unfold flatW
  rw [flat_get (rows2 L) hj, List.getElem?_map, h]; rfl
theorem flatW_cut {L : WL} {i : Nat} {p : Int × Int} (h : L[i]? = some p) : ((flatW L).drop (i * 2)).take 2 = rowW p := by
  unfold flatW
  exact flat_cut (rows2 L) (by rw [List.getElem?_map, h]; rfl)
theorem flatW_append (L M : WL) : flatW (L ++ M) = flatW L ++ flatW M := by simp [flatW]
/-- A word put in, or out, in a list by rising addresses. -/
def insL (a v : Int) : Bool → WL → WL
  | put, [] => if put then [] else [(a, v)]
  | put, p :: L => (if !put && decide (p.1 ≥ a) then [(a, v)] else []) ++ ((if p.1 != a then [p] else []) ++ insL a v (put || decide (p.1 ≥ a)) L)
theorem insL_true (a v : Int) : ∀ L : WL, insL a v true L = L.filter fun p => p.1 != a
  | [] => rfl
  | p :: L => by
    rw [insL, Bool.true_or, insL_true a v L, List.filter_cons]
    cases (p.1 != a) <;> simp
theorem insL_false (a v : Int) : ∀ L : WL, L.Pairwise (fun p q => p.1 < q.1) → insL a v false L = (L.filter fun p => decide (p.1 < a)) ++ ((a, v) :: L.filter fun p => decide (a < p.1))
  | [], _ => rfl
  | p :: L, h => by
    rw [List.pairwise_cons] at h
    rw [insL]
    by_cases hp : p.1 ≥ a
    · have h1 : decide (p.1 ≥ a) = true := by simpa using hp
      have h2 : decide (p.1 < a) = false := by simp; omega
      have h3 : (L.filter fun q => decide (q.1 < a)) = [] := by
        rw [List.filter_eq_nil_iff]; intro q hq; have := h.1 q hq; simp only [decide_eq_true_eq]; omega
      have h4 : (L.filter fun q => q.1 != a) = L.filter fun q => decide (a < q.1) := by
        apply List.filter_congr; intro q hq; have := h.1 q hq; rw [Bool.eq_iff_iff]; simp only [bne_iff_ne, decide_eq_true_eq]; omega
      simp only [h1, Bool.not_false, Bool.and_self, if_true, Bool.or_true, insL_true, List.filter_cons, h2, h3, h4, Bool.false_eq_true, if_false, List.nil_append, List.cons_append]
      by_cases hq : p.1 = a
      · have e1 : (p.1 != a) = false := by simpa using hq
        have e2 : decide (a < p.1) = false := by simp; omega
        simp [e1, e2]
      · have e1 : (p.1 != a) = true := by simpa using hq
        have e2 : decide (a < p.1) = true := by simp; omega
        simp [e1, e2]
    · have h1 : decide (p.1 ≥ a) = false := by simp; omega
      have h2 : decide (p.1 < a) = true := by simp; omega
      have h3 : (p.1 != a) = true := by simp; omega
      have h4 : decide (a < p.1) = false := by simp; omega
      simp only [h1, Bool.and_false, Bool.false_eq_true, if_false, Bool.or_self, insL_false a v L h.2, List.filter_cons, h2, h3, h4, if_true, List.nil_append, List.cons_append]
theorem getL_cons (p : Int × Int) (L : WL) (k : Int) : getL (p :: L) k = if p.1 = k then p.2 else getL L k := by
  unfold getL
  rw [List.find?_cons]
  by_cases h : p.1 = k
  · have : (p.1 == k) = true := by simpa using h
    simp [this, h]
  · have : (p.1 == k) = false := by simpa using h
    simp [this, h]
theorem getL_filter (q : Int × Int → Bool) (k : Int) : ∀ L : WL, (∀ p ∈ L, p.1 = k → q p = true) → getL (L.filter q) k = getL L k
  | [], _ => rfl
  | p :: L, h => by
    have ih := getL_filter q k L (fun x hx => h x (by simp [hx]))
    rw [List.filter_cons, getL_cons]
    by_cases hp : p.1 = k
    · rw [h p (by simp) hp]; simp [getL_cons, hp]
    · cases hq : q p with
      | true => simp [getL_cons, hp, ih]
      | false => simp [hp, ih]
theorem getL_none {k : Int} : ∀ {L : WL}, (∀ p ∈ L, p.1 ≠ k) → getL L k = 0
  | [], _ => rfl
  | p :: L, h => by
    rw [getL_cons, if_neg (h p (by simp)), getL_none (fun x hx => h x (by simp [hx]))]
theorem getL_append (k : Int) : ∀ L M : WL, (∀ p ∈ L, p.1 ≠ k) → getL (L ++ M) k = getL M k
  | [], M, _ => rfl
  | p :: L, M, h => by
    rw [List.cons_append, getL_cons, if_neg (h p (by simp)), getL_append k L M (fun x hx => h x (by simp [hx]))]
theorem getL_append' (k : Int) : ∀ L M : WL, (∀ p ∈ M, p.1 ≠ k) → getL (L ++ M) k = getL L k
  | [], M, h => by rw [List.nil_append, getL_none h]; rfl
  | p :: L, M, h => by
    rw [List.cons_append, getL_cons, getL_cons, getL_append' k L M h]
theorem LstOK.ins {L : WL} {f : Int → Int} (h : LstOK L f) (a v : Int) : LstOK (insL a v (v == 0) L) (upd f a v) := by
  by_cases hv : v = 0
  · have e : (v == 0) = true := by simpa using hv
    rw [e, insL_true]
    refine ⟨h.srt.sublist List.filter_sublist, fun p hp => h.nz p (List.mem_filter.1 hp).1, fun k => ?_⟩
    unfold upd
    by_cases hk : k = a
    · rw [if_pos hk, getL_none (fun p hp => by have := (List.mem_filter.1 hp).2; simp at this; omega)]; exact hv
    · rw [if_neg hk, h.val, getL_filter _ k L (fun p hp e => by simp; omega)]
  · have e : (v == 0) = false := by simpa using hv
    rw [e, insL_false a v L h.srt]
    refine ⟨?_, ?_, fun k => ?_⟩
    · rw [List.pairwise_append]
      refine ⟨h.srt.sublist List.filter_sublist, List.pairwise_cons.2 ⟨fun q hq => ?_, h.srt.sublist List.filter_sublist⟩, fun p hp q hq => ?_⟩
      · have := (List.mem_filter.1 hq).2; simpa using this
      · have h1 := (List.mem_filter.1 hp).2
        simp at h1
        rcases List.mem_cons.1 hq with rfl | hq
        · exact h1
        · have h2 := (List.mem_filter.1 hq).2; simp at h2; omega
    · intro p hp
      rcases List.mem_append.1 hp with hp | hp
      · exact h.nz p (List.mem_filter.1 hp).1
      · rcases List.mem_cons.1 hp with rfl | hp
        · exact hv
        · exact h.nz p (List.mem_filter.1 hp).1
    · unfold upd
      by_cases hk : k = a
      · rw [if_pos hk, getL_append k _ _ (fun p hp => by have := (List.mem_filter.1 hp).2; simp at this; omega), getL_cons, if_pos hk.symm]
      · rw [if_neg hk, h.val]
        by_cases hlt : k < a
        · rw [getL_append' k _ _ (fun p hp => by
            rcases List.mem_cons.1 hp with rfl | hp
            · exact fun e => hk e.symm
            · have := (List.mem_filter.1 hp).2; simp at this; omega), getL_filter _ k L (fun p hp e => by simp; omega)]
        · rw [getL_append k _ _ (fun p hp => by have := (List.mem_filter.1 hp).2; simp at this; omega), getL_cons, if_neg (fun e => hk e.symm), getL_filter _ k L (fun p hp e => by simp; omega)]
theorem insL_len (a v : Int) : ∀ (b : Bool) (L : WL), (insL a v b L).length ≤ L.length + 1
  | true, [] => by simp [insL]
  | false, [] => by simp [insL]
  | b, p :: L => by
    rw [insL]
    have h1 := insL_len a v (b || decide (p.1 ≥ a)) L
    have h2 : (b || decide (p.1 ≥ a)) = true → (insL a v (b || decide (p.1 ≥ a)) L).length ≤ L.length := by
      intro e; rw [e, insL_true]; exact List.length_filter_le _ _
    simp only [List.length_append, List.length_cons]
    cases b <;> cases hd : decide (p.1 ≥ a) <;> simp only [hd, Bool.or_true, Bool.or_false, Bool.or_self, Bool.not_true, Bool.not_false, Bool.and_true, Bool.and_false, Bool.and_self, Bool.false_eq_true, if_false, if_true, List.length_nil, List.length_singleton] at * <;>
      (have := h2; split <;> simp at * <;> omega)

def CS.rhd (s : CS) (v : Value) : AObj := .cells [v, .int .i64 s.count, .int .u8 s.kind, .int .u32 s.addr, .int .u64 s.was, .int .u64 s.is] Ty.laybyref02_Cells .fix
def RefP (r : Nat) (s : CS) (m : Nat) : SL :=
  ex fun q : Value × WL => lift (LstOK q.2 s.f ∧ rngF s.f ∧ q.2.length ≤ m) * (pts r (s.rhd q.1) * ownS Ty.laybyref02_Word 2 q.1 (flatW q.2))
theorem sat_ref {H : AH} {r : Nat} {s : CS} {m : Nat} {F : SL} : sat H (RefP r s m * F) ↔ ∃ v L, LstOK L s.f ∧ rngF s.f ∧ L.length ≤ m ∧ sat H (pts r (s.rhd v) * (ownS Ty.laybyref02_Word 2 v (flatW L) * F)) := by
  unfold RefP
  rw [sat_exS]
  constructor
  · rintro ⟨⟨v, L⟩, h⟩
    rw [sep_assoc, sat_lift] at h
    exact ⟨v, L, h.1.1, h.1.2.1, h.1.2.2, sat_of_eq h.2 (by ac_rfl)⟩
  · rintro ⟨v, L, h1, h2, h3, h⟩
    refine ⟨(v, L), ?_⟩
    rw [sep_assoc, sat_lift]
    exact ⟨⟨h1, h2, h3⟩, sat_of_eq h (by ac_rfl)⟩
/-- A slice of words as the loops read it. -/
structure Row (H : AH) (v : Value) (L : WL) : Prop where
  len : ∀ t, lenT (.slice t) v H = some (.int .i64 (L.length : Int))
  at0 : ∀ (i : Nat) (p : Int × Int), L[i]? = some p → ∃ n, ixS 2 v (.int .i64 (i : Int)) = some (.pointer (some ⟨n, i * 2, none⟩)) ∧ cellO (i * 2) (H.get n) = some (.int .u32 p.1) ∧ cellO (i * 2 + 1) (H.get n) = some (.int .u64 p.2) ∧
    cellsO 2 (i * 2) (H.get n) = some (.agg ⟨rowW p⟩)
theorem row_of_own {H : AH} {T : TypeId} {v : Value} {L : WL} {F : SL} (h : sat H (ownS T 2 v (flatW L) * F)) : Row H v L := by
  rcases sat_own.1 h with ⟨rfl, h2, -⟩ | ⟨m, len, rfl, h2, h3⟩
  · have hl := flatW_len L
    rw [h2] at hl
    have : L = [] := List.eq_nil_of_length_eq_zero (by simp at hl; omega)
    subst this
    exact ⟨fun t => rfl, fun i p hp => by simp at hp⟩
  · rw [flatW_len] at h2
    obtain rfl : len = L.length := by omega
    have g := (sat_get h3).1
    refine ⟨fun t => rfl, fun i p hp => ?_⟩
    have hi := (List.getElem?_eq_some_iff.1 hp).1
    refine ⟨m, by rw [ixS_of 2 m 0 _ _ none .i64 i hi, Nat.zero_add], ?_, ?_, ?_⟩
    · rw [g, cellO_cells]; exact flatW_get hp (j := 0) (by omega)
    · rw [g, cellO_cells]; exact flatW_get hp (by omega)
    · rw [g, cellsO_cells _ _ _ _ _ (by rw [flatW_len]; omega), flatW_cut hp]
theorem getL_take {L : WL} {i : Nat} {p : Int × Int} {k : Int} (h : L[i]? = some p) (hno : ∀ q ∈ L.take i, q.1 ≠ k) (hp : p.1 = k) : getL L k = p.2 := by
  obtain ⟨hi, rfl⟩ := List.getElem?_eq_some_iff.1 h
  conv => lhs; rw [← List.take_append_drop i L]
  rw [getL_append k _ _ hno, List.drop_eq_getElem_cons hi, getL_cons, if_pos hp]
theorem RPeek_ok {r : Nat} {s : CS} {m : Nat} {a : Int} {H : AH} {K : KV} {F : SL} (hm : m < 100000) (hs : sat H (RefP r s m * F)) (hK : K (.int .u64 (s.f a)) H) : DS Try.prog Fi.laybyref02_Cells_Peek [ptr r, .int .u32 a] H K := by
  refine use_laybyref02_Cells_Peek (m + 1) ?_
  unfold sh_laybyref02_Cells_Peek
  obtain ⟨v, L, h1, -, h3, hp⟩ := sat_ref.1 hs
  have g := (sat_get hp).1
  have hrow := row_of_own (sat_of_eq (B := ownS Ty.laybyref02_Word 2 v (flatW L) * (pts r (s.rhd v) * F)) hp (by ac_rfl))
  rw [h1.val] at hK
  refine lp_rule (fun n t H' => H' = H ∧ ∃ i : Nat, i ≤ L.length ∧ L.length < n + i ∧ t = (ptr r, .int .u32 a, .int .i64 (i : Int), ()) ∧ ∀ q ∈ L.take i, q.1 ≠ a) ?_ ?_ ⟨rfl, 0, by omega, by omega, rfl, by simp⟩
  · rintro n t H' ⟨rfl, i, hi, hn, rfl, hno⟩ R hR
    simp only [RS, List.cons_append, List.nil_append, Option.isNone_some, Option.isNone_none, Option.isSome_some, Option.isSome_none, Nat.zero_add, Nat.add_zero, Nat.reduceAdd, List.getElem?_cons_zero, List.getElem?_cons_succ, List.length_cons, List.length_nil, List.all_cons, List.all_nil, Bool.and_self, Bool.and_true, Bool.true_and, Option.bind_some, Nat.reduceLeDiff, Nat.reduceEqDiff, Nat.le_refl, and_self, if_true, if_false, List.drop_zero, List.drop_succ_cons, List.take_zero, List.take_succ_cons, List.take_nil, List.drop_nil, true_and, and_true, decide_true, decide_false, Nat.reduceMul, Nat.zero_mul, Nat.one_mul, Nat.mul_one, g, CS.rhd, hrow.len]
    by_cases hil : i < L.length
    · have hd : decide ((i : Int) < (L.length : Int)) = true := by simpa using hil
      obtain ⟨p, hpi⟩ : ∃ p, L[i]? = some p := ⟨_, List.getElem?_eq_getElem hil⟩
      obtain ⟨n', e1, e2, e3, -⟩ := hrow.at0 i p hpi
      simp only [hd, RS, List.cons_append, List.nil_append, Option.isNone_some, Option.isNone_none, Option.isSome_some, Option.isSome_none, Nat.zero_add, Nat.add_zero, Nat.reduceAdd, List.getElem?_cons_zero, List.getElem?_cons_succ, List.length_cons, List.length_nil, List.all_cons, List.all_nil, Bool.and_self, Bool.and_true, Bool.true_and, Option.bind_some, Nat.reduceLeDiff, Nat.reduceEqDiff, Nat.le_refl, and_self, if_true, if_false, List.drop_zero, List.drop_succ_cons, List.take_zero, List.take_succ_cons, List.take_nil, List.drop_nil, true_and, and_true, decide_true, decide_false, Nat.reduceMul, Nat.zero_mul, Nat.one_mul, Nat.mul_one, e1, e2]
      by_cases hpa : p.1 = a
      · have : (p.1 == a) = true := by simpa using hpa
        simp only [this, RS, List.cons_append, List.nil_append, Option.isNone_some, Option.isNone_none, Option.isSome_some, Option.isSome_none, Nat.zero_add, Nat.add_zero, Nat.reduceAdd, List.getElem?_cons_zero, List.getElem?_cons_succ, List.length_cons, List.length_nil, List.all_cons, List.all_nil, Bool.and_self, Bool.and_true, Bool.true_and, Option.bind_some, Nat.reduceLeDiff, Nat.reduceEqDiff, Nat.le_refl, and_self, if_true, if_false, List.drop_zero, List.drop_succ_cons, List.take_zero, List.take_succ_cons, List.take_nil, List.drop_nil, true_and, and_true, decide_true, decide_false, Nat.reduceMul, Nat.zero_mul, Nat.one_mul, Nat.mul_one, e1, e3]
        rw [getL_take hpi hno hpa] at hK; exact hK
      · have : (p.1 == a) = false := by simpa using hpa
        have hw : IntKind.i64.wrap ((i : Int) + 1) = ((i + 1 : Nat) : Int) := by rw [IntWalk.i64_in _ (by omega)]; omega
        simp only [this, RS, List.cons_append, List.nil_append, Option.isNone_some, Option.isNone_none, Option.isSome_some, Option.isSome_none, Nat.zero_add, Nat.add_zero, Nat.reduceAdd, List.getElem?_cons_zero, List.getElem?_cons_succ, List.length_cons, List.length_nil, List.all_cons, List.all_nil, Bool.and_self, Bool.and_true, Bool.true_and, Option.bind_some, Nat.reduceLeDiff, Nat.reduceEqDiff, Nat.le_refl, and_self, if_true, if_false, List.drop_zero, List.drop_succ_cons, List.take_zero, List.take_succ_cons, List.take_nil, List.drop_nil, true_and, and_true, decide_true, decide_false, Nat.reduceMul, Nat.zero_mul, Nat.one_mul, Nat.mul_one, hw]
        refine hR _ _ ⟨rfl, i + 1, by omega, by omega, rfl, fun q hq => ?_⟩
        rw [List.take_succ_eq_append_getElem hil] at hq
        rcases List.mem_append.1 hq with hq | hq
        · exact hno q hq
        · simp at hq; subst hq
          obtain ⟨_, rfl⟩ := List.getElem?_eq_some_iff.1 hpi; exact hpa
    · have hd : decide ((i : Int) < (L.length : Int)) = false := by simpa using hil
      simp only [hd, RS, List.cons_append, List.nil_append, Option.isNone_some, Option.isNone_none, Option.isSome_some, Option.isSome_none, Nat.zero_add, Nat.add_zero, Nat.reduceAdd, List.getElem?_cons_zero, List.getElem?_cons_succ, List.length_cons, List.length_nil, List.all_cons, List.all_nil, Bool.and_self, Bool.and_true, Bool.true_and, Option.bind_some, Nat.reduceLeDiff, Nat.reduceEqDiff, Nat.le_refl, and_self, if_true, if_false, List.drop_zero, List.drop_succ_cons, List.take_zero, List.take_succ_cons, List.take_nil, List.drop_nil, true_and, and_true, decide_true, decide_false, Nat.reduceMul, Nat.zero_mul, Nat.one_mul, Nat.mul_one]
      have : L.take i = L := by rw [List.take_of_length_le (by omega)]
      rw [this] at hno
      rw [getL_none hno] at hK; exact hK
  · rintro t H' ⟨rfl, i, hi, hn, -⟩; omega
end Go.Proofs.Ytiolnpeniklhiaa
