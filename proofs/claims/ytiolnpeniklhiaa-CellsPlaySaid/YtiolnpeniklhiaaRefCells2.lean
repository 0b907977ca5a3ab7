/- The document's cells, the accesses: contracts of laybyref02.
   Conditions: what stands in memory, as each states it. -/
import Derived.Test.YtiolnpeniklhiaaRefCells
namespace Go.Proofs.Ytiolnpeniklhiaa
open Go Go.Ab
set_option linter.all false
set_option maxRecDepth 100000

theorem isByte_yes {a : Int} {i : Nat} (hi : i < 8) (h : a = 1024 + 4 * (i : Int) ∨ a = 1120 + 4 * (i : Int)) : isByte a = true := by
  unfold isByte amg
  rcases h with h | h
  · have : (decide (a ≥ 1024) && decide (a < 1024 + 32) && ((a - 1024) % 4 == 0)) = true := by simp; omega
    rw [this]; rfl
  · have : (decide (a ≥ 1120) && decide (a < 1120 + 32) && ((a - 1120) % 4 == 0)) = true := by simp; omega
    rw [this]; simp
theorem isByte_no {a : Int} (h : ∀ i : Nat, i < 8 → a ≠ 1024 + 4 * (i : Int) ∧ a ≠ 1120 + 4 * (i : Int)) : isByte a = false := by
  cases hb : isByte a with
  | false => rfl
  | true =>
    exfalso
    unfold isByte amg at hb
    simp at hb
    rcases hb with ⟨⟨h1, h2⟩, h3⟩ | ⟨⟨h1, h2⟩, h3⟩
    · have := (h ((a - 1024) / 4).toNat (by omega)).1; omega
    · have := (h ((a - 1120) / 4).toNat (by omega)).2; omega
theorem RByte_ok {a : Int} (h0 : 0 ≤ a) (h1 : a < 4294967296) {H : AH} {K : KV} (hK : K (.bool (isByte a)) H) : DS Try.prog Fi.laybyref02_Byte [.int .u32 a] H K := by
  refine use_laybyref02_Byte 9 ?_
  unfold sh_laybyref02_Byte
  refine lp_rule (fun n t H' => H' = H ∧ ∃ i : Nat, i ≤ 8 ∧ 8 < n + i ∧ t = (.int .u32 a, .int .i64 (i : Int), ()) ∧ ∀ j : Nat, j < i → a ≠ 1024 + 4 * (j : Int) ∧ a ≠ 1120 + 4 * (j : Int)) ?_ ?_ ⟨rfl, 0, by omega, by omega, rfl, fun j hj => by omega⟩
  · rintro n t H' ⟨rfl, i, hi, hn, rfl, hno⟩ R hR
    simp only [RS, List.cons_append, List.nil_append, Option.isNone_some, Option.isNone_none, Option.isSome_some, Option.isSome_none, Nat.zero_add, Nat.add_zero, Nat.reduceAdd, List.getElem?_cons_zero, List.getElem?_cons_succ, List.length_cons, List.length_nil, List.all_cons, List.all_nil, Bool.and_self, Bool.and_true, Bool.true_and, Option.bind_some, Nat.reduceLeDiff, Nat.reduceEqDiff, Nat.le_refl, and_self, if_true, if_false, List.drop_zero, List.drop_succ_cons, List.take_zero, List.take_succ_cons, List.take_nil, List.drop_nil, true_and, and_true, decide_true, decide_false, Nat.reduceMul, Nat.zero_mul, Nat.one_mul, Nat.mul_one]
    by_cases hil : i < 8
    · have hd : decide ((i : Int) < 8) = true := by simp; omega
      have w1 : IntKind.i64.wrap (4 * (i : Int)) = 4 * i := IntWalk.i64_in _ (by omega)
      have w2 : IntKind.i64.wrap (1024 + 4 * (i : Int)) = 1024 + 4 * i := IntWalk.i64_in _ (by omega)
      have w3 : IntKind.u32.wrap (1024 + 4 * (i : Int)) = 1024 + 4 * i := IntWalk.u32_in _ (by omega)
      have w4 : IntKind.i64.wrap (1120 + 4 * (i : Int)) = 1120 + 4 * i := IntWalk.i64_in _ (by omega)
      have w5 : IntKind.u32.wrap (1120 + 4 * (i : Int)) = 1120 + 4 * i := IntWalk.u32_in _ (by omega)
      have w6 : IntKind.i64.wrap ((i : Int) + 1) = ((i + 1 : Nat) : Int) := by rw [IntWalk.i64_in _ (by omega)]; omega
      simp only [hd, RS, List.cons_append, List.nil_append, Option.isNone_some, Option.isNone_none, Option.isSome_some, Option.isSome_none, Nat.zero_add, Nat.add_zero, Nat.reduceAdd, List.getElem?_cons_zero, List.getElem?_cons_succ, List.length_cons, List.length_nil, List.all_cons, List.all_nil, Bool.and_self, Bool.and_true, Bool.true_and, Option.bind_some, Nat.reduceLeDiff, Nat.reduceEqDiff, Nat.le_refl, and_self, if_true, if_false, List.drop_zero, List.drop_succ_cons, List.take_zero, List.take_succ_cons, List.take_nil, List.drop_nil, true_and, and_true, decide_true, decide_false, Nat.reduceMul, Nat.zero_mul, Nat.one_mul, Nat.mul_one, w1, w2, w3]
      by_cases e1 : a = 1024 + 4 * (i : Int)
      · have : (a == 1024 + 4 * (i : Int)) = true := by simpa using e1
        simp only [this, RS, List.cons_append, List.nil_append, Option.isNone_some, Option.isNone_none, Option.isSome_some, Option.isSome_none, Nat.zero_add, Nat.add_zero, Nat.reduceAdd, List.getElem?_cons_zero, List.getElem?_cons_succ, List.length_cons, List.length_nil, List.all_cons, List.all_nil, Bool.and_self, Bool.and_true, Bool.true_and, Option.bind_some, Nat.reduceLeDiff, Nat.reduceEqDiff, Nat.le_refl, and_self, if_true, if_false, List.drop_zero, List.drop_succ_cons, List.take_zero, List.take_succ_cons, List.take_nil, List.drop_nil, true_and, and_true, decide_true, decide_false, Nat.reduceMul, Nat.zero_mul, Nat.one_mul, Nat.mul_one]
        rw [isByte_yes hil (.inl e1)] at hK; exact hK
      · have : (a == 1024 + 4 * (i : Int)) = false := by simpa using e1
        simp only [this, RS, List.cons_append, List.nil_append, Option.isNone_some, Option.isNone_none, Option.isSome_some, Option.isSome_none, Nat.zero_add, Nat.add_zero, Nat.reduceAdd, List.getElem?_cons_zero, List.getElem?_cons_succ, List.length_cons, List.length_nil, List.all_cons, List.all_nil, Bool.and_self, Bool.and_true, Bool.true_and, Option.bind_some, Nat.reduceLeDiff, Nat.reduceEqDiff, Nat.le_refl, and_self, if_true, if_false, List.drop_zero, List.drop_succ_cons, List.take_zero, List.take_succ_cons, List.take_nil, List.drop_nil, true_and, and_true, decide_true, decide_false, Nat.reduceMul, Nat.zero_mul, Nat.one_mul, Nat.mul_one, w1, w4, w5]
        by_cases e2 : a = 1120 + 4 * (i : Int)
        · have : (a == 1120 + 4 * (i : Int)) = true := by simpa using e2
          simp only [this, RS, List.cons_append, List.nil_append, Option.isNone_some, Option.isNone_none, Option.isSome_some, Option.isSome_none, Nat.zero_add, Nat.add_zero, Nat.reduceAdd, List.getElem?_cons_zero, List.getElem?_cons_succ, List.length_cons, List.length_nil, List.all_cons, List.all_nil, Bool.and_self, Bool.and_true, Bool.true_and, Option.bind_some, Nat.reduceLeDiff, Nat.reduceEqDiff, Nat.le_refl, and_self, if_true, if_false, List.drop_zero, List.drop_succ_cons, List.take_zero, List.take_succ_cons, List.take_nil, List.drop_nil, true_and, and_true, decide_true, decide_false, Nat.reduceMul, Nat.zero_mul, Nat.one_mul, Nat.mul_one]
          rw [isByte_yes hil (.inr e2)] at hK; exact hK
        · have : (a == 1120 + 4 * (i : Int)) = false := by simpa using e2
          simp only [this, RS, List.cons_append, List.nil_append, Option.isNone_some, Option.isNone_none, Option.isSome_some, Option.isSome_none, Nat.zero_add, Nat.add_zero, Nat.reduceAdd, List.getElem?_cons_zero, List.getElem?_cons_succ, List.length_cons, List.length_nil, List.all_cons, List.all_nil, Bool.and_self, Bool.and_true, Bool.true_and, Option.bind_some, Nat.reduceLeDiff, Nat.reduceEqDiff, Nat.le_refl, and_self, if_true, if_false, List.drop_zero, List.drop_succ_cons, List.take_zero, List.take_succ_cons, List.take_nil, List.drop_nil, true_and, and_true, decide_true, decide_false, Nat.reduceMul, Nat.zero_mul, Nat.one_mul, Nat.mul_one, w6]
          refine hR _ _ ⟨rfl, i + 1, by omega, by omega, rfl, fun j hj => ?_⟩
          by_cases hji : j = i
          · subst hji; exact ⟨e1, e2⟩
          · exact hno j (by omega)
    · have hd : decide ((i : Int) < 8) = false := by simp; omega
      simp only [hd, RS, List.cons_append, List.nil_append, Option.isNone_some, Option.isNone_none, Option.isSome_some, Option.isSome_none, Nat.zero_add, Nat.add_zero, Nat.reduceAdd, List.getElem?_cons_zero, List.getElem?_cons_succ, List.length_cons, List.length_nil, List.all_cons, List.all_nil, Bool.and_self, Bool.and_true, Bool.true_and, Option.bind_some, Nat.reduceLeDiff, Nat.reduceEqDiff, Nat.le_refl, and_self, if_true, if_false, List.drop_zero, List.drop_succ_cons, List.take_zero, List.take_succ_cons, List.take_nil, List.drop_nil, true_and, and_true, decide_true, decide_false, Nat.reduceMul, Nat.zero_mul, Nat.one_mul, Nat.mul_one]
      rw [isByte_no (fun j hj => hno j (by omega))] at hK; exact hK
  · rintro t H' ⟨rfl, i, hi, hn, -⟩; omega
theorem insL_step {a v : Int} {L : WL} {i : Nat} {p : Int × Int} {b : Bool} (h : L[i]? = some p) :
    insL a v b (L.drop i) = (if !b && decide (p.1 ≥ a) then [(a, v)] else []) ++ ((if p.1 != a then [p] else []) ++ insL a v (b || decide (p.1 ≥ a)) (L.drop (i + 1))) := by
  obtain ⟨hi, rfl⟩ := List.getElem?_eq_some_iff.1 h
  rw [List.drop_eq_getElem_cons hi, insL]
/-- A word is appended to a row of one's own. -/
theorem app_word {T Tb : TypeId} {H : AH} {ov : Value} {M : WL} {G : SL} (q : Int × Int) (h : sat H (ownS T 2 ov (flatW M) * G)) (hl : M.length ≤ 200000) :
    ∃ ov' H', appS 2 16 T ov (.slice (some ⟨H.nx, 0, none⟩) 1 1) (H.new (.cells [.int .u32 q.1, .int .u64 q.2] Tb .fix)) = some (ov', H') ∧ sat H' (ownS T 2 ov' (flatW (M ++ [q])) * G) := by
  have h1 := sat_new (.cells [.int .u32 q.1, .int .u64 q.2] Tb .fix) h
  obtain ⟨v', H', e1, h2⟩ := app_own (T := T) (es := 2) (bytes := 16) (v := ov) (cs := flatW M) (ys := [.int .u32 q.1, .int .u64 q.2]) (b := H.nx) (n := 1) (cap := 1) (Tb := Tb) (k := .fix) (F := G) (by decide) (sat_of_eq h1 (by ac_rfl)) rfl rfl (by decide) (by rw [flatW_len]; simp; omega)
  refine ⟨v', H', e1, ?_⟩
  rw [flatW_append]
  exact sat_sub (sat_of_eq (A := _) (B := pts H.nx (.cells [.int .u32 q.1, .int .u64 q.2] Tb .fix) * (ownS T 2 v' (flatW M ++ [.int .u32 q.1, .int .u64 q.2]) * G)) h2 (by ac_rfl))
theorem Raccess_ok {r : Nat} {s : CS} {m : Nat} {k a is : Int} {H : AH} {K : KV} {F : SL} (hm : m < 100000) (h0 : 0 ≤ a) (h1 : a < 4294967296) (hi0 : 0 ≤ is) (hi1 : is < 18446744073709551616) (hs : sat H (RefP r s m * F))
    (hK : ∀ H', sat H' (RefP r (s.acc k a is) (m + 1) * F) → K (.int .u64 (s.f a)) H') : DS Try.prog Fi.laybyref02_Cells_access [ptr r, .int .u8 k, .int .u32 a, .int .u64 is] H K := by
  refine use_laybyref02_Cells_access (m + 1) ?_
  unfold sh_laybyref02_Cells_access
  refine jn_rule (fun t H' => H' = H ∧ t = (ptr r, .int .u8 k, .int .u32 a, .int .u64 (byteOf a is), ())) ?_ ?_
  · rintro t H' ⟨rfl, rfl⟩
    simp only [RS, List.cons_append, List.nil_append, Option.isNone_some, Option.isNone_none, Option.isSome_some, Option.isSome_none, Nat.zero_add, Nat.add_zero, Nat.reduceAdd, List.getElem?_cons_zero, List.getElem?_cons_succ, List.length_cons, List.length_nil, List.all_cons, List.all_nil, Bool.and_self, Bool.and_true, Bool.true_and, Option.bind_some, Nat.reduceLeDiff, Nat.reduceEqDiff, Nat.le_refl, and_self, if_true, if_false, List.drop_zero, List.drop_succ_cons, List.take_zero, List.take_succ_cons, List.take_nil, List.drop_nil, true_and, and_true, decide_true, decide_false, Nat.reduceMul, Nat.zero_mul, Nat.one_mul, Nat.mul_one]
    refine RPeek_ok hm hs ?_
    obtain ⟨v, L, q1, q2, q3, hp⟩ := sat_ref.1 hs
    have g := (sat_get hp).1
    simp only [RS, List.cons_append, List.nil_append, Option.isNone_some, Option.isNone_none, Option.isSome_some, Option.isSome_none, Nat.zero_add, Nat.add_zero, Nat.reduceAdd, List.getElem?_cons_zero, List.getElem?_cons_succ, List.length_cons, List.length_nil, List.all_cons, List.all_nil, Bool.and_self, Bool.and_true, Bool.true_and, Option.bind_some, Nat.reduceLeDiff, Nat.reduceEqDiff, Nat.le_refl, and_self, if_true, if_false, List.drop_zero, List.drop_succ_cons, List.take_zero, List.take_succ_cons, List.take_nil, List.drop_nil, true_and, and_true, decide_true, decide_false, Nat.reduceMul, Nat.zero_mul, Nat.one_mul, Nat.mul_one, g, CS.rhd, get_put_eq, get_put_ne, get_new_eq, get_new_ne]
    -- the head is written twice
    have hp1 := sat_put ((s.acc k a is).rhd v) (sat_put (.cells [v, .int .i64 (IntKind.i64.wrap (s.count + 1)), .int .u8 s.kind, .int .u32 s.addr, .int .u64 s.was, .int .u64 s.is] Ty.laybyref02_Cells .fix) hp)
    simp only [CS.rhd, CS.acc] at hp1
    generalize ((H'.put r _).put r _) = H1 at hp1 ⊢
    generalize hx : byteOf a is = x at hp1 ⊢
    have hx0 : 0 ≤ x ∧ x < 18446744073709551616 := by have := byteOf_in (a := a) hi0 hi1; rw [hx] at this; exact ⟨this.1, this.2.1⟩
    have e0 : ∀ (H1 : AH), True := fun _ => trivial
    generalize hRH : pts r (.cells [v, .int .i64 (IntKind.i64.wrap (s.count + 1)), .int .u8 k, .int .u32 a, .int .u64 (s.f a), .int .u64 x] Ty.laybyref02_Cells .fix) = RH at hp1
    have facts : ∀ {H' : AH} {G : SL}, sat H' (RH * (ownS Ty.laybyref02_Word 2 v (flatW L) * G)) → H'.get r = some (.cells [v, .int .i64 (IntKind.i64.wrap (s.count + 1)), .int .u8 k, .int .u32 a, .int .u64 (s.f a), .int .u64 x] Ty.laybyref02_Cells .fix) ∧ Row H' v L := by
      intro H' G h
      refine ⟨?_, row_of_own (sat_of_eq (B := ownS Ty.laybyref02_Word 2 v (flatW L) * (RH * G)) h (by ac_rfl))⟩
      rw [← hRH] at h; exact (sat_get h).1
    have hbool : binT BinOp.eql (some (EqD.one EK.int)) true (.int .u64 x) (.int .u64 0) = some (.bool (x == 0)) := binT_eql_int _ _ _ _ _
    refine lp_rule (fun n t H => ∃ (i : Nat) (ov : Value) (M : WL) (b : Bool), i ≤ L.length ∧ L.length < n + i ∧ t = (ptr r, .int .u32 a, .int .u64 x, .int .u64 (s.f a), ov, .bool b, .int .i64 (i : Int), ()) ∧
      M ++ insL a x b (L.drop i) = insL a x (x == 0) L ∧ sat H (ownS Ty.laybyref02_Word 2 ov (flatW M) * (RH * (ownS Ty.laybyref02_Word 2 v (flatW L) * F)))) ?_ ?_
      ⟨0, .slice none 0 0, [], (x == 0), by omega, by omega, rfl, rfl, own_nil _ _ hp1⟩
    · rintro n t H2 ⟨i, ov, M, b, hi, hn, rfl, heq, h2⟩ R hR
      have hML : M.length ≤ 200000 := by
        have e1 := congrArg List.length heq
        have e2 := insL_len a x (x == 0) L
        simp only [List.length_append] at e1
        omega
      obtain ⟨g2, row2⟩ := facts (sat_of_eq (B := RH * (ownS Ty.laybyref02_Word 2 v (flatW L) * (ownS Ty.laybyref02_Word 2 ov (flatW M) * F))) h2 (by ac_rfl))
      simp only [RS, List.cons_append, List.nil_append, Option.isNone_some, Option.isNone_none, Option.isSome_some, Option.isSome_none, Nat.zero_add, Nat.add_zero, Nat.reduceAdd, List.getElem?_cons_zero, List.getElem?_cons_succ, List.length_cons, List.length_nil, List.all_cons, List.all_nil, Bool.and_self, Bool.and_true, Bool.true_and, Option.bind_some, Nat.reduceLeDiff, Nat.reduceEqDiff, Nat.le_refl, and_self, if_true, if_false, List.drop_zero, List.drop_succ_cons, List.take_zero, List.take_succ_cons, List.take_nil, List.drop_nil, true_and, and_true, decide_true, decide_false, Nat.reduceMul, Nat.zero_mul, Nat.one_mul, Nat.mul_one, g2, row2.len]
      by_cases hil : i < L.length
      · have hd : decide ((i : Int) < (L.length : Int)) = true := by simpa using hil
        obtain ⟨p, hpi⟩ : ∃ p, L[i]? = some p := ⟨_, List.getElem?_eq_getElem hil⟩
        obtain ⟨n', c1, c2, c3, c4⟩ := row2.at0 i p hpi
        rw [insL_step hpi] at heq
        simp only [hd, RS, List.cons_append, List.nil_append, Option.isNone_some, Option.isNone_none, Option.isSome_some, Option.isSome_none, Nat.zero_add, Nat.add_zero, Nat.reduceAdd, List.getElem?_cons_zero, List.getElem?_cons_succ, List.length_cons, List.length_nil, List.all_cons, List.all_nil, Bool.and_self, Bool.and_true, Bool.true_and, Option.bind_some, Nat.reduceLeDiff, Nat.reduceEqDiff, Nat.le_refl, and_self, if_true, if_false, List.drop_zero, List.drop_succ_cons, List.take_zero, List.take_succ_cons, List.take_nil, List.drop_nil, true_and, and_true, decide_true, decide_false, Nat.reduceMul, Nat.zero_mul, Nat.one_mul, Nat.mul_one]
        -- behind the round
        refine jn_rule (fun t H => ∃ (ov : Value) (M' : WL), t = (ptr r, .int .u32 a, .int .u64 x, .int .u64 (s.f a), ov, .bool (b || decide (p.1 ≥ a)), .int .i64 (i : Int), ()) ∧
          M' = M ++ ((if !b && decide (p.1 ≥ a) then [(a, x)] else []) ++ (if p.1 != a then [p] else [])) ∧ sat H (ownS Ty.laybyref02_Word 2 ov (flatW M') * (RH * (ownS Ty.laybyref02_Word 2 v (flatW L) * F)))) ?_ ?_
        · rintro t H3 ⟨ov3, M3, rfl, rfl, h3⟩
          have hw : IntKind.i64.wrap ((i : Int) + 1) = ((i + 1 : Nat) : Int) := by rw [IntWalk.i64_in _ (by omega)]; omega
          simp only [RS, List.cons_append, List.nil_append, Option.isNone_some, Option.isNone_none, Option.isSome_some, Option.isSome_none, Nat.zero_add, Nat.add_zero, Nat.reduceAdd, List.getElem?_cons_zero, List.getElem?_cons_succ, List.length_cons, List.length_nil, List.all_cons, List.all_nil, Bool.and_self, Bool.and_true, Bool.true_and, Option.bind_some, Nat.reduceLeDiff, Nat.reduceEqDiff, Nat.le_refl, and_self, if_true, if_false, List.drop_zero, List.drop_succ_cons, List.take_zero, List.take_succ_cons, List.take_nil, List.drop_nil, true_and, and_true, decide_true, decide_false, Nat.reduceMul, Nat.zero_mul, Nat.one_mul, Nat.mul_one, hw]
          refine hR _ _ ⟨i + 1, ov3, _, _, by omega, by omega, rfl, ?_, h3⟩
          rw [← heq]; simp only [List.append_assoc]
        · intro R29 hR29
          refine jn_rule (fun t H => ∃ (ov : Value) (M' : WL), t = (ptr r, .int .u32 a, .int .u64 x, .int .u64 (s.f a), ov, .bool (b || decide (p.1 ≥ a)), .int .i64 (i : Int), ()) ∧
            M' = M ++ (if !b && decide (p.1 ≥ a) then [(a, x)] else []) ∧ sat H (ownS Ty.laybyref02_Word 2 ov (flatW M') * (RH * (ownS Ty.laybyref02_Word 2 v (flatW L) * F)))) ?_ ?_
          · rintro t H3 ⟨ov3, M3, rfl, hM3, h3⟩
            have hML3 : M3.length ≤ 200000 := by
              have e1 := congrArg List.length heq
              have e2 := insL_len a x (x == 0) L
              rw [hM3]
              simp only [List.length_append] at e1 ⊢
              omega
            obtain ⟨g3, row3⟩ := facts (sat_of_eq (B := RH * (ownS Ty.laybyref02_Word 2 v (flatW L) * (ownS Ty.laybyref02_Word 2 ov3 (flatW M3) * F))) h3 (by ac_rfl))
            obtain ⟨n3, d1, d2, d3, d4⟩ := row3.at0 i p hpi
            simp only [RS, List.cons_append, List.nil_append, Option.isNone_some, Option.isNone_none, Option.isSome_some, Option.isSome_none, Nat.zero_add, Nat.add_zero, Nat.reduceAdd, List.getElem?_cons_zero, List.getElem?_cons_succ, List.length_cons, List.length_nil, List.all_cons, List.all_nil, Bool.and_self, Bool.and_true, Bool.true_and, Option.bind_some, Nat.reduceLeDiff, Nat.reduceEqDiff, Nat.le_refl, and_self, if_true, if_false, List.drop_zero, List.drop_succ_cons, List.take_zero, List.take_succ_cons, List.take_nil, List.drop_nil, true_and, and_true, decide_true, decide_false, Nat.reduceMul, Nat.zero_mul, Nat.one_mul, Nat.mul_one, g3, d1, d2]
            by_cases hpa : p.1 = a
            · have e : (p.1 != a) = false := by simpa using hpa
              simp only [e, RS, List.cons_append, List.nil_append, Option.isNone_some, Option.isNone_none, Option.isSome_some, Option.isSome_none, Nat.zero_add, Nat.add_zero, Nat.reduceAdd, List.getElem?_cons_zero, List.getElem?_cons_succ, List.length_cons, List.length_nil, List.all_cons, List.all_nil, Bool.and_self, Bool.and_true, Bool.true_and, Option.bind_some, Nat.reduceLeDiff, Nat.reduceEqDiff, Nat.le_refl, and_self, if_true, if_false, List.drop_zero, List.drop_succ_cons, List.take_zero, List.take_succ_cons, List.take_nil, List.drop_nil, true_and, and_true, decide_true, decide_false, Nat.reduceMul, Nat.zero_mul, Nat.one_mul, Nat.mul_one]
              refine hR29 _ _ ⟨ov3, _, rfl, rfl, ?_⟩
              have : M ++ ((if !b && decide (p.1 ≥ a) then [(a, x)] else []) ++ (if (p.1 != a) = true then [p] else [])) = M3 := by rw [hM3, e]; simp
              rw [this]; exact h3
            · have e : (p.1 != a) = true := by simpa using hpa
              simp only [e, RS, List.cons_append, List.nil_append, Option.isNone_some, Option.isNone_none, Option.isSome_some, Option.isSome_none, Nat.zero_add, Nat.add_zero, Nat.reduceAdd, List.getElem?_cons_zero, List.getElem?_cons_succ, List.length_cons, List.length_nil, List.all_cons, List.all_nil, Bool.and_self, Bool.and_true, Bool.true_and, Option.bind_some, Nat.reduceLeDiff, Nat.reduceEqDiff, Nat.le_refl, and_self, if_true, if_false, List.drop_zero, List.drop_succ_cons, List.take_zero, List.take_succ_cons, List.take_nil, List.drop_nil, true_and, and_true, decide_true, decide_false, Nat.reduceMul, Nat.zero_mul, Nat.one_mul, Nat.mul_one, g3, d1, d4, rowW]
              obtain ⟨ov', H', e1, h4⟩ := app_word (T := Ty.laybyref02_Word) (Tb := Ty.laybyref02_Word) p h3 hML3
              simp only [e1, RS, List.cons_append, List.nil_append, Option.isNone_some, Option.isNone_none, Option.isSome_some, Option.isSome_none, Nat.zero_add, Nat.add_zero, Nat.reduceAdd, List.getElem?_cons_zero, List.getElem?_cons_succ, List.length_cons, List.length_nil, List.all_cons, List.all_nil, Bool.and_self, Bool.and_true, Bool.true_and, Option.bind_some, Nat.reduceLeDiff, Nat.reduceEqDiff, Nat.le_refl, and_self, if_true, if_false, List.drop_zero, List.drop_succ_cons, List.take_zero, List.take_succ_cons, List.take_nil, List.drop_nil, true_and, and_true, decide_true, decide_false, Nat.reduceMul, Nat.zero_mul, Nat.one_mul, Nat.mul_one]
              refine hR29 _ _ ⟨ov', _, rfl, rfl, ?_⟩
              have : M ++ ((if !b && decide (p.1 ≥ a) then [(a, x)] else []) ++ (if (p.1 != a) = true then [p] else [])) = M3 ++ [p] := by rw [hM3, e]; simp
              rw [this]; exact h4
          · intro R48 hR48
            cases b with
            | true =>
              simp only [RS, List.cons_append, List.nil_append, Option.isNone_some, Option.isNone_none, Option.isSome_some, Option.isSome_none, Nat.zero_add, Nat.add_zero, Nat.reduceAdd, List.getElem?_cons_zero, List.getElem?_cons_succ, List.length_cons, List.length_nil, List.all_cons, List.all_nil, Bool.and_self, Bool.and_true, Bool.true_and, Option.bind_some, Nat.reduceLeDiff, Nat.reduceEqDiff, Nat.le_refl, and_self, if_true, if_false, List.drop_zero, List.drop_succ_cons, List.take_zero, List.take_succ_cons, List.take_nil, List.drop_nil, true_and, and_true, decide_true, decide_false, Nat.reduceMul, Nat.zero_mul, Nat.one_mul, Nat.mul_one, Bool.not_true]
              exact hR48 _ _ ⟨ov, M, rfl, by simp, h2⟩
            | false =>
              simp only [RS, List.cons_append, List.nil_append, Option.isNone_some, Option.isNone_none, Option.isSome_some, Option.isSome_none, Nat.zero_add, Nat.add_zero, Nat.reduceAdd, List.getElem?_cons_zero, List.getElem?_cons_succ, List.length_cons, List.length_nil, List.all_cons, List.all_nil, Bool.and_self, Bool.and_true, Bool.true_and, Option.bind_some, Nat.reduceLeDiff, Nat.reduceEqDiff, Nat.le_refl, and_self, if_true, if_false, List.drop_zero, List.drop_succ_cons, List.take_zero, List.take_succ_cons, List.take_nil, List.drop_nil, true_and, and_true, decide_true, decide_false, Nat.reduceMul, Nat.zero_mul, Nat.one_mul, Nat.mul_one, Bool.not_false, g2, c1, c2]
              by_cases hpg : p.1 ≥ a
              · have e : decide (p.1 ≥ a) = true := by simpa using hpg
                simp only [e, RS, List.cons_append, List.nil_append, Option.isNone_some, Option.isNone_none, Option.isSome_some, Option.isSome_none, Nat.zero_add, Nat.add_zero, Nat.reduceAdd, List.getElem?_cons_zero, List.getElem?_cons_succ, List.length_cons, List.length_nil, List.all_cons, List.all_nil, Bool.and_self, Bool.and_true, Bool.true_and, Option.bind_some, Nat.reduceLeDiff, Nat.reduceEqDiff, Nat.le_refl, and_self, if_true, if_false, List.drop_zero, List.drop_succ_cons, List.take_zero, List.take_succ_cons, List.take_nil, List.drop_nil, true_and, and_true, decide_true, decide_false, Nat.reduceMul, Nat.zero_mul, Nat.one_mul, Nat.mul_one]
                obtain ⟨ov', H', e1, h4⟩ := app_word (T := Ty.laybyref02_Word) (Tb := Ty.laybyref02_Word) (a, x) h2 hML
                simp only [e1, RS, List.cons_append, List.nil_append, Option.isNone_some, Option.isNone_none, Option.isSome_some, Option.isSome_none, Nat.zero_add, Nat.add_zero, Nat.reduceAdd, List.getElem?_cons_zero, List.getElem?_cons_succ, List.length_cons, List.length_nil, List.all_cons, List.all_nil, Bool.and_self, Bool.and_true, Bool.true_and, Option.bind_some, Nat.reduceLeDiff, Nat.reduceEqDiff, Nat.le_refl, and_self, if_true, if_false, List.drop_zero, List.drop_succ_cons, List.take_zero, List.take_succ_cons, List.take_nil, List.drop_nil, true_and, and_true, decide_true, decide_false, Nat.reduceMul, Nat.zero_mul, Nat.one_mul, Nat.mul_one]
                refine hR48 _ _ ⟨ov', M ++ [(a, x)], by simp [e], by simp [e], h4⟩
              · have e : decide (p.1 ≥ a) = false := by simpa using hpg
                simp only [e, RS, List.cons_append, List.nil_append, Option.isNone_some, Option.isNone_none, Option.isSome_some, Option.isSome_none, Nat.zero_add, Nat.add_zero, Nat.reduceAdd, List.getElem?_cons_zero, List.getElem?_cons_succ, List.length_cons, List.length_nil, List.all_cons, List.all_nil, Bool.and_self, Bool.and_true, Bool.true_and, Option.bind_some, Nat.reduceLeDiff, Nat.reduceEqDiff, Nat.le_refl, and_self, if_true, if_false, List.drop_zero, List.drop_succ_cons, List.take_zero, List.take_succ_cons, List.take_nil, List.drop_nil, true_and, and_true, decide_true, decide_false, Nat.reduceMul, Nat.zero_mul, Nat.one_mul, Nat.mul_one]
                refine hR48 _ _ ⟨ov, M, by simp [e], by simp [e], h2⟩
      · have hd : decide ((i : Int) < (L.length : Int)) = false := by simpa using hil
        simp only [hd, RS, List.cons_append, List.nil_append, Option.isNone_some, Option.isNone_none, Option.isSome_some, Option.isSome_none, Nat.zero_add, Nat.add_zero, Nat.reduceAdd, List.getElem?_cons_zero, List.getElem?_cons_succ, List.length_cons, List.length_nil, List.all_cons, List.all_nil, Bool.and_self, Bool.and_true, Bool.true_and, Option.bind_some, Nat.reduceLeDiff, Nat.reduceEqDiff, Nat.le_refl, and_self, if_true, if_false, List.drop_zero, List.drop_succ_cons, List.take_zero, List.take_succ_cons, List.take_nil, List.drop_nil, true_and, and_true, decide_true, decide_false, Nat.reduceMul, Nat.zero_mul, Nat.one_mul, Nat.mul_one]
        have hdrop : L.drop i = [] := List.drop_eq_nil_of_le (by omega)
        rw [hdrop] at heq
        refine jn_rule (fun t H => ∃ ov, t = (ptr r, .int .u64 (s.f a), ov, ()) ∧ sat H (ownS Ty.laybyref02_Word 2 ov (flatW (insL a x (x == 0) L)) * (RH * (ownS Ty.laybyref02_Word 2 v (flatW L) * F)))) ?_ ?_
        · rintro t H3 ⟨ov3, rfl, h3⟩
          obtain ⟨g3, row3⟩ := facts (sat_of_eq (B := RH * (ownS Ty.laybyref02_Word 2 v (flatW L) * (ownS Ty.laybyref02_Word 2 ov3 (flatW (insL a x (x == 0) L)) * F))) h3 (by ac_rfl))
          have hov : cellsL ov3 = [ov3] ∧ plain ov3 = true := by
            rcases sat_own.1 h3 with ⟨rfl, -, -⟩ | ⟨m', len', rfl, -, -⟩ <;> exact ⟨rfl, rfl⟩
          simp only [RS, List.cons_append, List.nil_append, Option.isNone_some, Option.isNone_none, Option.isSome_some, Option.isSome_none, Nat.zero_add, Nat.add_zero, Nat.reduceAdd, List.getElem?_cons_zero, List.getElem?_cons_succ, List.length_cons, List.length_nil, List.all_cons, List.all_nil, Bool.and_self, Bool.and_true, Bool.true_and, Option.bind_some, Nat.reduceLeDiff, Nat.reduceEqDiff, Nat.le_refl, and_self, if_true, if_false, List.drop_zero, List.drop_succ_cons, List.take_zero, List.take_succ_cons, List.take_nil, List.drop_nil, true_and, and_true, decide_true, decide_false, Nat.reduceMul, Nat.zero_mul, Nat.one_mul, Nat.mul_one, g3, hov.1, hov.2]
          refine hK _ (sat_ref.2 ⟨ov3, insL a x (x == 0) L, ?_, ?_, ?_, ?_⟩)
          · rw [← hx]; exact q1.ins a (byteOf a is)
          · exact rngF_upd q2 a hi0 hi1
          · have := insL_len a x (x == 0) L; omega
          · have h4 := sat_of_eq (B := RH * (ownS Ty.laybyref02_Word 2 v (flatW L) * (ownS Ty.laybyref02_Word 2 ov3 (flatW (insL a x (x == 0) L)) * F))) h3 (by ac_rfl)
            rw [← hRH] at h4
            have h5 := sat_put ((s.acc k a is).rhd ov3) h4
            have h6 := sat_sub (sat_of_eq (A := _) (B := ownS Ty.laybyref02_Word 2 v (flatW L) * (pts r ((s.acc k a is).rhd ov3) * (ownS Ty.laybyref02_Word 2 ov3 (flatW (insL a x (x == 0) L)) * F))) h5 (by ac_rfl))
            simp only [CS.rhd, CS.acc, hx] at h6
            simp only [CS.rhd, CS.acc, hx]
            exact h6
        · intro R5 hR5
          cases b with
          | true =>
            have : M = insL a x (x == 0) L := by rw [← heq]; simp [insL]
            simp only [RS, List.cons_append, List.nil_append, Option.isNone_some, Option.isNone_none, Option.isSome_some, Option.isSome_none, Nat.zero_add, Nat.add_zero, Nat.reduceAdd, List.getElem?_cons_zero, List.getElem?_cons_succ, List.length_cons, List.length_nil, List.all_cons, List.all_nil, Bool.and_self, Bool.and_true, Bool.true_and, Option.bind_some, Nat.reduceLeDiff, Nat.reduceEqDiff, Nat.le_refl, and_self, if_true, if_false, List.drop_zero, List.drop_succ_cons, List.take_zero, List.take_succ_cons, List.take_nil, List.drop_nil, true_and, and_true, decide_true, decide_false, Nat.reduceMul, Nat.zero_mul, Nat.one_mul, Nat.mul_one, Bool.not_true]
            refine hR5 _ _ ⟨ov, rfl, ?_⟩
            rw [← this]; exact h2
          | false =>
            have : M ++ [(a, x)] = insL a x (x == 0) L := by rw [← heq]; simp [insL]
            simp only [RS, List.cons_append, List.nil_append, Option.isNone_some, Option.isNone_none, Option.isSome_some, Option.isSome_none, Nat.zero_add, Nat.add_zero, Nat.reduceAdd, List.getElem?_cons_zero, List.getElem?_cons_succ, List.length_cons, List.length_nil, List.all_cons, List.all_nil, Bool.and_self, Bool.and_true, Bool.true_and, Option.bind_some, Nat.reduceLeDiff, Nat.reduceEqDiff, Nat.le_refl, and_self, if_true, if_false, List.drop_zero, List.drop_succ_cons, List.take_zero, List.take_succ_cons, List.take_nil, List.drop_nil, true_and, and_true, decide_true, decide_false, Nat.reduceMul, Nat.zero_mul, Nat.one_mul, Nat.mul_one, Bool.not_false]
            obtain ⟨ov', H', e1, h4⟩ := app_word (T := Ty.laybyref02_Word) (Tb := Ty.laybyref02_Word) (a, x) h2 hML
            simp only [e1, RS, List.cons_append, List.nil_append, Option.isNone_some, Option.isNone_none, Option.isSome_some, Option.isSome_none, Nat.zero_add, Nat.add_zero, Nat.reduceAdd, List.getElem?_cons_zero, List.getElem?_cons_succ, List.length_cons, List.length_nil, List.all_cons, List.all_nil, Bool.and_self, Bool.and_true, Bool.true_and, Option.bind_some, Nat.reduceLeDiff, Nat.reduceEqDiff, Nat.le_refl, and_self, if_true, if_false, List.drop_zero, List.drop_succ_cons, List.take_zero, List.take_succ_cons, List.take_nil, List.drop_nil, true_and, and_true, decide_true, decide_false, Nat.reduceMul, Nat.zero_mul, Nat.one_mul, Nat.mul_one]
            refine hR5 _ _ ⟨ov', rfl, ?_⟩
            rw [← this]; exact h4
    · rintro t H' ⟨i, ov, M, b, hi, hn, -⟩; omega
  · intro R hR
    simp only [RS, List.cons_append, List.nil_append, Option.isNone_some, Option.isNone_none, Option.isSome_some, Option.isSome_none, Nat.zero_add, Nat.add_zero, Nat.reduceAdd, List.getElem?_cons_zero, List.getElem?_cons_succ, List.length_cons, List.length_nil, List.all_cons, List.all_nil, Bool.and_self, Bool.and_true, Bool.true_and, Option.bind_some, Nat.reduceLeDiff, Nat.reduceEqDiff, Nat.le_refl, and_self, if_true, if_false, List.drop_zero, List.drop_succ_cons, List.take_zero, List.take_succ_cons, List.take_nil, List.drop_nil, true_and, and_true, decide_true, decide_false, Nat.reduceMul, Nat.zero_mul, Nat.one_mul, Nat.mul_one]
    refine RByte_ok h0 h1 ?_
    cases hb : isByte a with
    | true =>
      have e3 : is.tmod 256 = is % 256 := Int.tmod_eq_emod_of_nonneg hi0
      simp only [RS, List.cons_append, List.nil_append, Option.isNone_some, Option.isNone_none, Option.isSome_some, Option.isSome_none, Nat.zero_add, Nat.add_zero, Nat.reduceAdd, List.getElem?_cons_zero, List.getElem?_cons_succ, List.length_cons, List.length_nil, List.all_cons, List.all_nil, Bool.and_self, Bool.and_true, Bool.true_and, Option.bind_some, Nat.reduceLeDiff, Nat.reduceEqDiff, Nat.le_refl, and_self, if_true, if_false, List.drop_zero, List.drop_succ_cons, List.take_zero, List.take_succ_cons, List.take_nil, List.drop_nil, true_and, and_true, decide_true, decide_false, Nat.reduceMul, Nat.zero_mul, Nat.one_mul, Nat.mul_one, binT_rem_int _ _ _ _ 256 (by decide), e3]
      exact hR _ _ ⟨rfl, by simp [byteOf, hb]⟩
    | false =>
      simp only [RS, List.cons_append, List.nil_append, Option.isNone_some, Option.isNone_none, Option.isSome_some, Option.isSome_none, Nat.zero_add, Nat.add_zero, Nat.reduceAdd, List.getElem?_cons_zero, List.getElem?_cons_succ, List.length_cons, List.length_nil, List.all_cons, List.all_nil, Bool.and_self, Bool.and_true, Bool.true_and, Option.bind_some, Nat.reduceLeDiff, Nat.reduceEqDiff, Nat.le_refl, and_self, if_true, if_false, List.drop_zero, List.drop_succ_cons, List.take_zero, List.take_succ_cons, List.take_nil, List.drop_nil, true_and, and_true, decide_true, decide_false, Nat.reduceMul, Nat.zero_mul, Nat.one_mul, Nat.mul_one]
      exact hR _ _ ⟨rfl, by simp [byteOf, hb]⟩
end Go.Proofs.Ytiolnpeniklhiaa
