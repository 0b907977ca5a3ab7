/- The document's cells, the other accesses; an access done to both.
   Conditions: what stands in memory, as each states it. -/
import Derived.Test.YtiolnpeniklhiaaRefCells2
import Derived.Test.YtiolnpeniklhiaaActs
namespace Go.Proofs.Ytiolnpeniklhiaa
open Go Go.Ab
set_option linter.all false
set_option maxRecDepth 100000

theorem RStore_ok {r : Nat} {s : CS} {m : Nat} {a v : Int} {H : AH} {K : KV} {F : SL} (hm : m < 100000) (h0 : 0 ≤ a) (h1 : a < 4294967296) (hi0 : 0 ≤ v) (hi1 : v < 18446744073709551616) (hs : sat H (RefP r s m * F))
    (hK : ∀ H', sat H' (RefP r (s.acc 2 a v) (m + 1) * F) → K (.int .u64 (s.f a)) H') : DS Try.prog Fi.laybyref02_Cells_Store [ptr r, .int .u32 a, .int .u64 v] H K := by
  refine use_laybyref02_Cells_Store 0 ?_
  unfold sh_laybyref02_Cells_Store
  simp only [RS, List.cons_append, List.nil_append, Option.isNone_some, Option.isNone_none, Option.isSome_some, Option.isSome_none, Nat.zero_add, Nat.add_zero, Nat.reduceAdd, List.getElem?_cons_zero, List.getElem?_cons_succ, List.length_cons, List.length_nil, List.all_cons, List.all_nil, Bool.and_self, Bool.and_true, Bool.true_and, Option.bind_some, Nat.reduceLeDiff, Nat.reduceEqDiff, Nat.le_refl, and_self, if_true, if_false, List.drop_zero, List.drop_succ_cons, List.take_zero, List.take_succ_cons, List.take_nil, List.drop_nil, true_and, and_true, decide_true, decide_false, Nat.reduceMul, Nat.zero_mul, Nat.one_mul, Nat.mul_one]
  exact Raccess_ok hm h0 h1 hi0 hi1 hs hK
theorem RSwap_ok {r : Nat} {s : CS} {m : Nat} {a v : Int} {H : AH} {K : KV} {F : SL} (hm : m < 100000) (h0 : 0 ≤ a) (h1 : a < 4294967296) (hi0 : 0 ≤ v) (hi1 : v < 18446744073709551616) (hs : sat H (RefP r s m * F))
    (hK : ∀ H', sat H' (RefP r (s.acc 4 a v) (m + 1) * F) → K (.int .u64 (s.f a)) H') : DS Try.prog Fi.laybyref02_Cells_Swap [ptr r, .int .u32 a, .int .u64 v] H K := by
  refine use_laybyref02_Cells_Swap 0 ?_
  unfold sh_laybyref02_Cells_Swap
  simp only [RS, List.cons_append, List.nil_append, Option.isNone_some, Option.isNone_none, Option.isSome_some, Option.isSome_none, Nat.zero_add, Nat.add_zero, Nat.reduceAdd, List.getElem?_cons_zero, List.getElem?_cons_succ, List.length_cons, List.length_nil, List.all_cons, List.all_nil, Bool.and_self, Bool.and_true, Bool.true_and, Option.bind_some, Nat.reduceLeDiff, Nat.reduceEqDiff, Nat.le_refl, and_self, if_true, if_false, List.drop_zero, List.drop_succ_cons, List.take_zero, List.take_succ_cons, List.take_nil, List.drop_nil, true_and, and_true, decide_true, decide_false, Nat.reduceMul, Nat.zero_mul, Nat.one_mul, Nat.mul_one]
  exact Raccess_ok hm h0 h1 hi0 hi1 hs hK
theorem RAdd_ok {r : Nat} {s : CS} {m : Nat} {a v : Int} {H : AH} {K : KV} {F : SL} (hm : m < 100000) (h0 : 0 ≤ a) (h1 : a < 4294967296) (hs : sat H (RefP r s m * F))
    (hK : ∀ H', sat H' (RefP r (s.acc 5 a ((s.f a + v) % 18446744073709551616)) (m + 1) * F) → K (.int .u64 (s.f a)) H') : DS Try.prog Fi.laybyref02_Cells_Add [ptr r, .int .u32 a, .int .u64 v] H K := by
  refine use_laybyref02_Cells_Add 0 ?_
  unfold sh_laybyref02_Cells_Add
  simp only [RS, List.cons_append, List.nil_append, Option.isNone_some, Option.isNone_none, Option.isSome_some, Option.isSome_none, Nat.zero_add, Nat.add_zero, Nat.reduceAdd, List.getElem?_cons_zero, List.getElem?_cons_succ, List.length_cons, List.length_nil, List.all_cons, List.all_nil, Bool.and_self, Bool.and_true, Bool.true_and, Option.bind_some, Nat.reduceLeDiff, Nat.reduceEqDiff, Nat.le_refl, and_self, if_true, if_false, List.drop_zero, List.drop_succ_cons, List.take_zero, List.take_succ_cons, List.take_nil, List.drop_nil, true_and, and_true, decide_true, decide_false, Nat.reduceMul, Nat.zero_mul, Nat.one_mul, Nat.mul_one, w64]
  refine RPeek_ok hm hs ?_
  simp only [RS, List.cons_append, List.nil_append, Option.isNone_some, Option.isNone_none, Option.isSome_some, Option.isSome_none, Nat.zero_add, Nat.add_zero, Nat.reduceAdd, List.getElem?_cons_zero, List.getElem?_cons_succ, List.length_cons, List.length_nil, List.all_cons, List.all_nil, Bool.and_self, Bool.and_true, Bool.true_and, Option.bind_some, Nat.reduceLeDiff, Nat.reduceEqDiff, Nat.le_refl, and_self, if_true, if_false, List.drop_zero, List.drop_succ_cons, List.take_zero, List.take_succ_cons, List.take_nil, List.drop_nil, true_and, and_true, decide_true, decide_false, Nat.reduceMul, Nat.zero_mul, Nat.one_mul, Nat.mul_one, w64]
  exact Raccess_ok hm h0 h1 (by omega) (by omega) hs hK
theorem RAnd_ok {r : Nat} {s : CS} {m : Nat} {a v : Int} {H : AH} {K : KV} {F : SL} (hm : m < 100000) (h0 : 0 ≤ a) (h1 : a < 4294967296) (hs : sat H (RefP r s m * F))
    (hK : ∀ H', sat H' (RefP r (s.acc 6 a (andI (s.f a) v)) (m + 1) * F) → K (.int .u64 (s.f a)) H') : DS Try.prog Fi.laybyref02_Cells_And [ptr r, .int .u32 a, .int .u64 v] H K := by
  refine use_laybyref02_Cells_And 0 ?_
  unfold sh_laybyref02_Cells_And
  simp only [callV_fv, List.nil_append, List.append_nil]
  refine RPeek_ok hm hs ?_
  simp only [RS, List.cons_append, List.nil_append, Option.isNone_some, Option.isNone_none, Option.isSome_some, Option.isSome_none, Nat.zero_add, Nat.add_zero, Nat.reduceAdd, List.getElem?_cons_zero, List.getElem?_cons_succ, List.length_cons, List.length_nil, List.all_cons, List.all_nil, Bool.and_self, Bool.and_true, Bool.true_and, Option.bind_some, Nat.reduceLeDiff, Nat.reduceEqDiff, Nat.le_refl, and_self, if_true, if_false, List.drop_zero, List.drop_succ_cons, List.take_zero, List.take_succ_cons, List.take_nil, List.drop_nil, true_and, and_true, decide_true, decide_false, Nat.reduceMul, Nat.zero_mul, Nat.one_mul, Nat.mul_one]
  have : IntKind.u64.wrap ((BitVec.ofInt IntKind.u64.bits (s.f a) &&& BitVec.ofInt IntKind.u64.bits v).toNat : Int) = andI (s.f a) v := bits_wrap _
  rw [this]
  exact Raccess_ok hm h0 h1 (bits_in _).1 (bits_in _).2 hs hK
theorem ROr_ok {r : Nat} {s : CS} {m : Nat} {a v : Int} {H : AH} {K : KV} {F : SL} (hm : m < 100000) (h0 : 0 ≤ a) (h1 : a < 4294967296) (hs : sat H (RefP r s m * F))
    (hK : ∀ H', sat H' (RefP r (s.acc 7 a (orI (s.f a) v)) (m + 1) * F) → K (.int .u64 (s.f a)) H') : DS Try.prog Fi.laybyref02_Cells_Or [ptr r, .int .u32 a, .int .u64 v] H K := by
  refine use_laybyref02_Cells_Or 0 ?_
  unfold sh_laybyref02_Cells_Or
  simp only [callV_fv, List.nil_append, List.append_nil]
  refine RPeek_ok hm hs ?_
  simp only [RS, List.cons_append, List.nil_append, Option.isNone_some, Option.isNone_none, Option.isSome_some, Option.isSome_none, Nat.zero_add, Nat.add_zero, Nat.reduceAdd, List.getElem?_cons_zero, List.getElem?_cons_succ, List.length_cons, List.length_nil, List.all_cons, List.all_nil, Bool.and_self, Bool.and_true, Bool.true_and, Option.bind_some, Nat.reduceLeDiff, Nat.reduceEqDiff, Nat.le_refl, and_self, if_true, if_false, List.drop_zero, List.drop_succ_cons, List.take_zero, List.take_succ_cons, List.take_nil, List.drop_nil, true_and, and_true, decide_true, decide_false, Nat.reduceMul, Nat.zero_mul, Nat.one_mul, Nat.mul_one]
  have : IntKind.u64.wrap ((BitVec.ofInt IntKind.u64.bits (s.f a) ||| BitVec.ofInt IntKind.u64.bits v).toNat : Int) = orI (s.f a) v := bits_wrap _
  rw [this]
  exact Raccess_ok hm h0 h1 (bits_in _).1 (bits_in _).2 hs hK
theorem ref_rng {H : AH} {r : Nat} {s : CS} {m : Nat} {F : SL} (hs : sat H (RefP r s m * F)) : rngF s.f := by
  obtain ⟨v, L, h1, h2, h3, hp⟩ := sat_ref.1 hs
  exact h2
theorem upd_same {f : Int → Int} {a : Int} (h : byteOf a (f a) = f a) : upd f a (byteOf a (f a)) = f := by
  funext k
  unfold upd
  split
  · rename_i e; rw [e, h]
  · rfl
theorem RCAS_ok {r : Nat} {s : CS} {m : Nat} {a was is : Int} {H : AH} {K : KV} {F : SL} (hm : m < 100000) (h0 : 0 ≤ a) (h1 : a < 4294967296) (hi0 : 0 ≤ is) (hi1 : is < 18446744073709551616) (hs : sat H (RefP r s m * F))
    (hK : ∀ H', sat H' (RefP r (s.acc 3 a (if s.f a = was then is else s.f a)) (m + 1) * F) → K (.tuple ⟨[.int .u64 (s.f a), .bool (s.f a == was)]⟩) H') :
    DS Try.prog Fi.laybyref02_Cells_CAS [ptr r, .int .u32 a, .int .u64 was, .int .u64 is] H K := by
  refine use_laybyref02_Cells_CAS 0 ?_
  unfold sh_laybyref02_Cells_CAS
  simp only [callV_fv, List.nil_append, List.append_nil]
  refine RPeek_ok hm hs ?_
  simp only [RS, List.cons_append, List.nil_append, Option.isNone_some, Option.isNone_none, Option.isSome_some, Option.isSome_none, Nat.zero_add, Nat.add_zero, Nat.reduceAdd, List.getElem?_cons_zero, List.getElem?_cons_succ, List.length_cons, List.length_nil, List.all_cons, List.all_nil, Bool.and_self, Bool.and_true, Bool.true_and, Option.bind_some, Nat.reduceLeDiff, Nat.reduceEqDiff, Nat.le_refl, and_self, if_true, if_false, List.drop_zero, List.drop_succ_cons, List.take_zero, List.take_succ_cons, List.take_nil, List.drop_nil, true_and, and_true, decide_true, decide_false, Nat.reduceMul, Nat.zero_mul, Nat.one_mul, Nat.mul_one]
  have hr := ref_rng hs a
  by_cases e : s.f a = was
  · have e' : (s.f a == was) = true := by simpa using e
    simp only [e', RS, List.cons_append, List.nil_append, Option.isNone_some, Option.isNone_none, Option.isSome_some, Option.isSome_none, Nat.zero_add, Nat.add_zero, Nat.reduceAdd, List.getElem?_cons_zero, List.getElem?_cons_succ, List.length_cons, List.length_nil, List.all_cons, List.all_nil, Bool.and_self, Bool.and_true, Bool.true_and, Option.bind_some, Nat.reduceLeDiff, Nat.reduceEqDiff, Nat.le_refl, and_self, if_true, if_false, List.drop_zero, List.drop_succ_cons, List.take_zero, List.take_succ_cons, List.take_nil, List.drop_nil, true_and, and_true, decide_true, decide_false, Nat.reduceMul, Nat.zero_mul, Nat.one_mul, Nat.mul_one]
    refine Raccess_ok hm h0 h1 hi0 hi1 hs fun H' h => ?_
    have := hK H' (by rw [if_pos e]; exact h)
    rw [e'] at this; exact this
  · have e' : (s.f a == was) = false := by simpa using e
    simp only [e', RS, List.cons_append, List.nil_append, Option.isNone_some, Option.isNone_none, Option.isSome_some, Option.isSome_none, Nat.zero_add, Nat.add_zero, Nat.reduceAdd, List.getElem?_cons_zero, List.getElem?_cons_succ, List.length_cons, List.length_nil, List.all_cons, List.all_nil, Bool.and_self, Bool.and_true, Bool.true_and, Option.bind_some, Nat.reduceLeDiff, Nat.reduceEqDiff, Nat.le_refl, and_self, if_true, if_false, List.drop_zero, List.drop_succ_cons, List.take_zero, List.take_succ_cons, List.take_nil, List.drop_nil, true_and, and_true, decide_true, decide_false, Nat.reduceMul, Nat.zero_mul, Nat.one_mul, Nat.mul_one]
    refine RPeek_ok hm hs ?_
    refine Raccess_ok hm h0 h1 hr.1 hr.2.1 hs fun H' h => ?_
    have := hK H' (by rw [if_neg e]; exact h)
    rw [e'] at this; exact this
theorem RLoad_ok {r : Nat} {s : CS} {m : Nat} {a : Int} {H : AH} {K : KV} {F : SL} (hm : m < 100000) (hs : sat H (RefP r s m * F))
    (hK : ∀ H', sat H' (RefP r (s.acc 1 a (s.f a)) (m + 1) * F) → K (.int .u64 (s.f a)) H') : DS Try.prog Fi.laybyref02_Cells_Load [ptr r, .int .u32 a] H K := by
  refine use_laybyref02_Cells_Load 0 ?_
  unfold sh_laybyref02_Cells_Load
  simp only [callV_fv, List.nil_append, List.append_nil]
  refine RPeek_ok hm hs ?_
  obtain ⟨v, L, q1, q2, q3, hp⟩ := sat_ref.1 hs
  have g := (sat_get hp).1
  simp only [RS, List.cons_append, List.nil_append, Option.isNone_some, Option.isNone_none, Option.isSome_some, Option.isSome_none, Nat.zero_add, Nat.add_zero, Nat.reduceAdd, List.getElem?_cons_zero, List.getElem?_cons_succ, List.length_cons, List.length_nil, List.all_cons, List.all_nil, Bool.and_self, Bool.and_true, Bool.true_and, Option.bind_some, Nat.reduceLeDiff, Nat.reduceEqDiff, Nat.le_refl, and_self, if_true, if_false, List.drop_zero, List.drop_succ_cons, List.take_zero, List.take_succ_cons, List.take_nil, List.drop_nil, true_and, and_true, decide_true, decide_false, Nat.reduceMul, Nat.zero_mul, Nat.one_mul, Nat.mul_one, g, CS.rhd, get_put_eq, get_put_ne, get_new_eq, get_new_ne]
  have hu := upd_same (q2 a).2.2
  have hp1 := sat_put ((s.acc 1 a (s.f a)).rhd v) (sat_put (.cells [v, .int .i64 (IntKind.i64.wrap (s.count + 1)), .int .u8 s.kind, .int .u32 s.addr, .int .u64 s.was, .int .u64 s.is] Ty.laybyref02_Cells .fix) hp)
  refine hK _ (sat_ref.2 ⟨v, L, ?_, ?_, by omega, ?_⟩)
  · show LstOK L (upd s.f a (byteOf a (s.f a))); rw [hu]; exact q1
  · show rngF (upd s.f a (byteOf a (s.f a))); rw [hu]; exact q2
  · have hb := (q2 a).2.2
    simp only [CS.rhd, CS.acc, hb] at hp1 ⊢
    exact hp1
/-- An access done to both: what both tell is one. -/
theorem do_ok {c r : Nat} {s : CS} {m : Nat} {x : AP} {H : AH} {K : KV} {F : SL} (hm : m < 100000) (hx : x.ok) (hs : sat H (CellsP c s * (RefP r s m * F)))
    (hK : ∀ H' s', sat H' (CellsP c s' * (RefP r s' (m + 1) * F)) → K (.bool true) H') : DS Try.prog Fi.laybylaw02_do [ptr c, ptr r, .agg ⟨x.row⟩] H K := by
  refine use_laybylaw02_do 0 ?_
  unfold sh_laybylaw02_do
  have hs1 := sat_new (.cells x.row Ty.laybylaw02_Act .fix) hs
  simp only [AP.row] at hs1
  simp only [RS, List.cons_append, List.nil_append, Option.isNone_some, Option.isNone_none, Option.isSome_some, Option.isSome_none, Nat.zero_add, Nat.add_zero, Nat.reduceAdd, List.getElem?_cons_zero, List.getElem?_cons_succ, List.length_cons, List.length_nil, List.all_cons, List.all_nil, Bool.and_self, Bool.and_true, Bool.true_and, Option.bind_some, Nat.reduceLeDiff, Nat.reduceEqDiff, Nat.le_refl, and_self, if_true, if_false, List.drop_zero, List.drop_succ_cons, List.take_zero, List.take_succ_cons, List.take_nil, List.drop_nil, true_and, and_true, decide_true, decide_false, Nat.reduceMul, Nat.zero_mul, Nat.one_mul, Nat.mul_one, AP.row]
  generalize H.new (.cells [.int .u8 x.k, .int .u32 x.a, .int .u64 x.v, .int .u64 x.w, .bool x.r] Ty.laybylaw02_Act .fix) = H1 at hs1 ⊢
  generalize H.nx = n at hs1 ⊢
  obtain ⟨⟨k0, k1⟩, ⟨a0, a1⟩, ⟨v0, v1⟩, w0, w1⟩ := hx
  have gX : ∀ {H' : AH} {w' : Int} {G : SL}, sat H' (pts n (.cells [.int .u8 x.k, .int .u32 x.a, .int .u64 x.v, .int .u64 w', .bool x.r] Ty.laybylaw02_Act .fix) * G) → H'.get n = some (.cells [.int .u8 x.k, .int .u32 x.a, .int .u64 x.v, .int .u64 w', .bool x.r] Ty.laybylaw02_Act .fix) := fun h => (sat_get h).1
  refine jn_rule (fun t H' => ∃ w', t = (ptr c, ptr r, ptr n, ()) ∧ sat H' (pts n (.cells [.int .u8 x.k, .int .u32 x.a, .int .u64 x.v, .int .u64 w', .bool x.r] Ty.laybylaw02_Act .fix) * (CellsP c s * (RefP r s m * F)))) ?_ ?_
  · rintro t H2 ⟨w', rfl, h2⟩
    have g2 := gX h2
    generalize hX : pts n (.cells [.int .u8 x.k, .int .u32 x.a, .int .u64 x.v, .int .u64 w', .bool x.r] Ty.laybylaw02_Act .fix) = X at h2
    have gY : ∀ {H' : AH} {G : SL}, sat H' (G * X) → H'.get n = some (.cells [.int .u8 x.k, .int .u32 x.a, .int .u64 x.v, .int .u64 w', .bool x.r] Ty.laybylaw02_Act .fix) := fun h => by
      rw [sep_comm, ← hX] at h; exact gX h
    have hC : sat H2 (CellsP c s * ((RefP r s m * F) * X)) := sat_of_eq h2 (by ac_rfl)
    have hrng := CellsP.rng hC x.a
    have fin : ∀ {H' : AH} {s' : CS}, sat H' (RefP r s' (m + 1) * (F * (CellsP c s' * X))) → K (.bool true) H' := fun h => hK _ _ (sat_sub (sat_of_eq (A := _) (B := X * (CellsP c _ * (RefP r _ (m + 1) * F))) h (by ac_rfl)))
    have toR : ∀ {H' : AH} {s' : CS}, sat H' (CellsP c s' * ((RefP r s m * F) * X)) → sat H' (RefP r s m * (F * (CellsP c s' * X))) := fun h => sat_of_eq h (by ac_rfl)
    have gZ : ∀ {H' : AH} {s' : CS}, sat H' (CellsP c s' * ((RefP r s m * F) * X)) → H'.get n = some (.cells [.int .u8 x.k, .int .u32 x.a, .int .u64 x.v, .int .u64 w', .bool x.r] Ty.laybylaw02_Act .fix) := fun {H' s'} h => gY (sat_of_eq (B := (CellsP c s' * (RefP r s m * F)) * X) h (by ac_rfl))
    simp only [RS, List.cons_append, List.nil_append, Option.isNone_some, Option.isNone_none, Option.isSome_some, Option.isSome_none, Nat.zero_add, Nat.add_zero, Nat.reduceAdd, List.getElem?_cons_zero, List.getElem?_cons_succ, List.length_cons, List.length_nil, List.all_cons, List.all_nil, Bool.and_self, Bool.and_true, Bool.true_and, Option.bind_some, Nat.reduceLeDiff, Nat.reduceEqDiff, Nat.le_refl, and_self, if_true, if_false, List.drop_zero, List.drop_succ_cons, List.take_zero, List.take_succ_cons, List.take_nil, List.drop_nil, true_and, and_true, decide_true, decide_false, Nat.reduceMul, Nat.zero_mul, Nat.one_mul, Nat.mul_one, g2, binT_rem_int _ _ _ _ 7 (by decide)]
    by_cases q0 : x.k.tmod 7 = 0
    · have e0 : (x.k.tmod 7 == 0) = true := by simpa using q0
      simp only [e0, RS, List.cons_append, List.nil_append, Option.isNone_some, Option.isNone_none, Option.isSome_some, Option.isSome_none, Nat.zero_add, Nat.add_zero, Nat.reduceAdd, List.getElem?_cons_zero, List.getElem?_cons_succ, List.length_cons, List.length_nil, List.all_cons, List.all_nil, Bool.and_self, Bool.and_true, Bool.true_and, Option.bind_some, Nat.reduceLeDiff, Nat.reduceEqDiff, Nat.le_refl, and_self, if_true, if_false, List.drop_zero, List.drop_succ_cons, List.take_zero, List.take_succ_cons, List.take_nil, List.drop_nil, true_and, and_true, decide_true, decide_false, Nat.reduceMul, Nat.zero_mul, Nat.one_mul, Nat.mul_one]
      refine Load_ok a0 a1 hC fun H3 h3 => ?_
      simp only [RS, List.cons_append, List.nil_append, Option.isNone_some, Option.isNone_none, Option.isSome_some, Option.isSome_none, Nat.zero_add, Nat.add_zero, Nat.reduceAdd, List.getElem?_cons_zero, List.getElem?_cons_succ, List.length_cons, List.length_nil, List.all_cons, List.all_nil, Bool.and_self, Bool.and_true, Bool.true_and, Option.bind_some, Nat.reduceLeDiff, Nat.reduceEqDiff, Nat.le_refl, and_self, if_true, if_false, List.drop_zero, List.drop_succ_cons, List.take_zero, List.take_succ_cons, List.take_nil, List.drop_nil, true_and, and_true, decide_true, decide_false, Nat.reduceMul, Nat.zero_mul, Nat.one_mul, Nat.mul_one, gZ h3]
      refine RLoad_ok hm (toR h3) fun H4 h4 => ?_
      simp only [RS, List.cons_append, List.nil_append, Option.isNone_some, Option.isNone_none, Option.isSome_some, Option.isSome_none, Nat.zero_add, Nat.add_zero, Nat.reduceAdd, List.getElem?_cons_zero, List.getElem?_cons_succ, List.length_cons, List.length_nil, List.all_cons, List.all_nil, Bool.and_self, Bool.and_true, Bool.true_and, Option.bind_some, Nat.reduceLeDiff, Nat.reduceEqDiff, Nat.le_refl, and_self, if_true, if_false, List.drop_zero, List.drop_succ_cons, List.take_zero, List.take_succ_cons, List.take_nil, List.drop_nil, true_and, and_true, decide_true, decide_false, Nat.reduceMul, Nat.zero_mul, Nat.one_mul, Nat.mul_one, beq_self_eq_true]
      exact fin h4
    have e0 : (x.k.tmod 7 == 0) = false := by simpa using q0
    simp only [e0, RS, List.cons_append, List.nil_append, Option.isNone_some, Option.isNone_none, Option.isSome_some, Option.isSome_none, Nat.zero_add, Nat.add_zero, Nat.reduceAdd, List.getElem?_cons_zero, List.getElem?_cons_succ, List.length_cons, List.length_nil, List.all_cons, List.all_nil, Bool.and_self, Bool.and_true, Bool.true_and, Option.bind_some, Nat.reduceLeDiff, Nat.reduceEqDiff, Nat.le_refl, and_self, if_true, if_false, List.drop_zero, List.drop_succ_cons, List.take_zero, List.take_succ_cons, List.take_nil, List.drop_nil, true_and, and_true, decide_true, decide_false, Nat.reduceMul, Nat.zero_mul, Nat.one_mul, Nat.mul_one]
    by_cases q1 : x.k.tmod 7 = 1
    · have e1 : (x.k.tmod 7 == 1) = true := by simpa using q1
      simp only [e1, RS, List.cons_append, List.nil_append, Option.isNone_some, Option.isNone_none, Option.isSome_some, Option.isSome_none, Nat.zero_add, Nat.add_zero, Nat.reduceAdd, List.getElem?_cons_zero, List.getElem?_cons_succ, List.length_cons, List.length_nil, List.all_cons, List.all_nil, Bool.and_self, Bool.and_true, Bool.true_and, Option.bind_some, Nat.reduceLeDiff, Nat.reduceEqDiff, Nat.le_refl, and_self, if_true, if_false, List.drop_zero, List.drop_succ_cons, List.take_zero, List.take_succ_cons, List.take_nil, List.drop_nil, true_and, and_true, decide_true, decide_false, Nat.reduceMul, Nat.zero_mul, Nat.one_mul, Nat.mul_one, g2]
      refine Store_ok a0 a1 v0 v1 hC fun H3 h3 => ?_
      simp only [RS, List.cons_append, List.nil_append, Option.isNone_some, Option.isNone_none, Option.isSome_some, Option.isSome_none, Nat.zero_add, Nat.add_zero, Nat.reduceAdd, List.getElem?_cons_zero, List.getElem?_cons_succ, List.length_cons, List.length_nil, List.all_cons, List.all_nil, Bool.and_self, Bool.and_true, Bool.true_and, Option.bind_some, Nat.reduceLeDiff, Nat.reduceEqDiff, Nat.le_refl, and_self, if_true, if_false, List.drop_zero, List.drop_succ_cons, List.take_zero, List.take_succ_cons, List.take_nil, List.drop_nil, true_and, and_true, decide_true, decide_false, Nat.reduceMul, Nat.zero_mul, Nat.one_mul, Nat.mul_one, gZ h3]
      refine RStore_ok hm a0 a1 v0 v1 (toR h3) fun H4 h4 => ?_
      simp only [RS, List.cons_append, List.nil_append, Option.isNone_some, Option.isNone_none, Option.isSome_some, Option.isSome_none, Nat.zero_add, Nat.add_zero, Nat.reduceAdd, List.getElem?_cons_zero, List.getElem?_cons_succ, List.length_cons, List.length_nil, List.all_cons, List.all_nil, Bool.and_self, Bool.and_true, Bool.true_and, Option.bind_some, Nat.reduceLeDiff, Nat.reduceEqDiff, Nat.le_refl, and_self, if_true, if_false, List.drop_zero, List.drop_succ_cons, List.take_zero, List.take_succ_cons, List.take_nil, List.drop_nil, true_and, and_true, decide_true, decide_false, Nat.reduceMul, Nat.zero_mul, Nat.one_mul, Nat.mul_one, beq_self_eq_true]
      exact fin h4
    have e1 : (x.k.tmod 7 == 1) = false := by simpa using q1
    simp only [e1, RS, List.cons_append, List.nil_append, Option.isNone_some, Option.isNone_none, Option.isSome_some, Option.isSome_none, Nat.zero_add, Nat.add_zero, Nat.reduceAdd, List.getElem?_cons_zero, List.getElem?_cons_succ, List.length_cons, List.length_nil, List.all_cons, List.all_nil, Bool.and_self, Bool.and_true, Bool.true_and, Option.bind_some, Nat.reduceLeDiff, Nat.reduceEqDiff, Nat.le_refl, and_self, if_true, if_false, List.drop_zero, List.drop_succ_cons, List.take_zero, List.take_succ_cons, List.take_nil, List.drop_nil, true_and, and_true, decide_true, decide_false, Nat.reduceMul, Nat.zero_mul, Nat.one_mul, Nat.mul_one]
    by_cases q2 : x.k.tmod 7 = 2
    · have e2 : (x.k.tmod 7 == 2) = true := by simpa using q2
      simp only [e2, RS, List.cons_append, List.nil_append, Option.isNone_some, Option.isNone_none, Option.isSome_some, Option.isSome_none, Nat.zero_add, Nat.add_zero, Nat.reduceAdd, List.getElem?_cons_zero, List.getElem?_cons_succ, List.length_cons, List.length_nil, List.all_cons, List.all_nil, Bool.and_self, Bool.and_true, Bool.true_and, Option.bind_some, Nat.reduceLeDiff, Nat.reduceEqDiff, Nat.le_refl, and_self, if_true, if_false, List.drop_zero, List.drop_succ_cons, List.take_zero, List.take_succ_cons, List.take_nil, List.drop_nil, true_and, and_true, decide_true, decide_false, Nat.reduceMul, Nat.zero_mul, Nat.one_mul, Nat.mul_one, g2]
      refine CAS_ok a0 a1 v0 v1 hC fun H3 h3 => ?_
      simp only [RS, List.cons_append, List.nil_append, Option.isNone_some, Option.isNone_none, Option.isSome_some, Option.isSome_none, Nat.zero_add, Nat.add_zero, Nat.reduceAdd, List.getElem?_cons_zero, List.getElem?_cons_succ, List.length_cons, List.length_nil, List.all_cons, List.all_nil, Bool.and_self, Bool.and_true, Bool.true_and, Option.bind_some, Nat.reduceLeDiff, Nat.reduceEqDiff, Nat.le_refl, and_self, if_true, if_false, List.drop_zero, List.drop_succ_cons, List.take_zero, List.take_succ_cons, List.take_nil, List.drop_nil, true_and, and_true, decide_true, decide_false, Nat.reduceMul, Nat.zero_mul, Nat.one_mul, Nat.mul_one, gZ h3]
      refine RCAS_ok hm a0 a1 v0 v1 (toR h3) fun H4 h4 => ?_
      simp only [RS, List.cons_append, List.nil_append, Option.isNone_some, Option.isNone_none, Option.isSome_some, Option.isSome_none, Nat.zero_add, Nat.add_zero, Nat.reduceAdd, List.getElem?_cons_zero, List.getElem?_cons_succ, List.length_cons, List.length_nil, List.all_cons, List.all_nil, Bool.and_self, Bool.and_true, Bool.true_and, Option.bind_some, Nat.reduceLeDiff, Nat.reduceEqDiff, Nat.le_refl, and_self, if_true, if_false, List.drop_zero, List.drop_succ_cons, List.take_zero, List.take_succ_cons, List.take_nil, List.drop_nil, true_and, and_true, decide_true, decide_false, Nat.reduceMul, Nat.zero_mul, Nat.one_mul, Nat.mul_one, beq_self_eq_true]
      exact fin h4
    have e2 : (x.k.tmod 7 == 2) = false := by simpa using q2
    simp only [e2, RS, List.cons_append, List.nil_append, Option.isNone_some, Option.isNone_none, Option.isSome_some, Option.isSome_none, Nat.zero_add, Nat.add_zero, Nat.reduceAdd, List.getElem?_cons_zero, List.getElem?_cons_succ, List.length_cons, List.length_nil, List.all_cons, List.all_nil, Bool.and_self, Bool.and_true, Bool.true_and, Option.bind_some, Nat.reduceLeDiff, Nat.reduceEqDiff, Nat.le_refl, and_self, if_true, if_false, List.drop_zero, List.drop_succ_cons, List.take_zero, List.take_succ_cons, List.take_nil, List.drop_nil, true_and, and_true, decide_true, decide_false, Nat.reduceMul, Nat.zero_mul, Nat.one_mul, Nat.mul_one]
    by_cases q3 : x.k.tmod 7 = 3
    · have e3 : (x.k.tmod 7 == 3) = true := by simpa using q3
      simp only [e3, RS, List.cons_append, List.nil_append, Option.isNone_some, Option.isNone_none, Option.isSome_some, Option.isSome_none, Nat.zero_add, Nat.add_zero, Nat.reduceAdd, List.getElem?_cons_zero, List.getElem?_cons_succ, List.length_cons, List.length_nil, List.all_cons, List.all_nil, Bool.and_self, Bool.and_true, Bool.true_and, Option.bind_some, Nat.reduceLeDiff, Nat.reduceEqDiff, Nat.le_refl, and_self, if_true, if_false, List.drop_zero, List.drop_succ_cons, List.take_zero, List.take_succ_cons, List.take_nil, List.drop_nil, true_and, and_true, decide_true, decide_false, Nat.reduceMul, Nat.zero_mul, Nat.one_mul, Nat.mul_one, g2]
      refine Swap_ok a0 a1 v0 v1 hC fun H3 h3 => ?_
      simp only [RS, List.cons_append, List.nil_append, Option.isNone_some, Option.isNone_none, Option.isSome_some, Option.isSome_none, Nat.zero_add, Nat.add_zero, Nat.reduceAdd, List.getElem?_cons_zero, List.getElem?_cons_succ, List.length_cons, List.length_nil, List.all_cons, List.all_nil, Bool.and_self, Bool.and_true, Bool.true_and, Option.bind_some, Nat.reduceLeDiff, Nat.reduceEqDiff, Nat.le_refl, and_self, if_true, if_false, List.drop_zero, List.drop_succ_cons, List.take_zero, List.take_succ_cons, List.take_nil, List.drop_nil, true_and, and_true, decide_true, decide_false, Nat.reduceMul, Nat.zero_mul, Nat.one_mul, Nat.mul_one, gZ h3]
      refine RSwap_ok hm a0 a1 v0 v1 (toR h3) fun H4 h4 => ?_
      simp only [RS, List.cons_append, List.nil_append, Option.isNone_some, Option.isNone_none, Option.isSome_some, Option.isSome_none, Nat.zero_add, Nat.add_zero, Nat.reduceAdd, List.getElem?_cons_zero, List.getElem?_cons_succ, List.length_cons, List.length_nil, List.all_cons, List.all_nil, Bool.and_self, Bool.and_true, Bool.true_and, Option.bind_some, Nat.reduceLeDiff, Nat.reduceEqDiff, Nat.le_refl, and_self, if_true, if_false, List.drop_zero, List.drop_succ_cons, List.take_zero, List.take_succ_cons, List.take_nil, List.drop_nil, true_and, and_true, decide_true, decide_false, Nat.reduceMul, Nat.zero_mul, Nat.one_mul, Nat.mul_one, beq_self_eq_true]
      exact fin h4
    have e3 : (x.k.tmod 7 == 3) = false := by simpa using q3
    simp only [e3, RS, List.cons_append, List.nil_append, Option.isNone_some, Option.isNone_none, Option.isSome_some, Option.isSome_none, Nat.zero_add, Nat.add_zero, Nat.reduceAdd, List.getElem?_cons_zero, List.getElem?_cons_succ, List.length_cons, List.length_nil, List.all_cons, List.all_nil, Bool.and_self, Bool.and_true, Bool.true_and, Option.bind_some, Nat.reduceLeDiff, Nat.reduceEqDiff, Nat.le_refl, and_self, if_true, if_false, List.drop_zero, List.drop_succ_cons, List.take_zero, List.take_succ_cons, List.take_nil, List.drop_nil, true_and, and_true, decide_true, decide_false, Nat.reduceMul, Nat.zero_mul, Nat.one_mul, Nat.mul_one]
    by_cases q4 : x.k.tmod 7 = 4
    · have e4 : (x.k.tmod 7 == 4) = true := by simpa using q4
      simp only [e4, RS, List.cons_append, List.nil_append, Option.isNone_some, Option.isNone_none, Option.isSome_some, Option.isSome_none, Nat.zero_add, Nat.add_zero, Nat.reduceAdd, List.getElem?_cons_zero, List.getElem?_cons_succ, List.length_cons, List.length_nil, List.all_cons, List.all_nil, Bool.and_self, Bool.and_true, Bool.true_and, Option.bind_some, Nat.reduceLeDiff, Nat.reduceEqDiff, Nat.le_refl, and_self, if_true, if_false, List.drop_zero, List.drop_succ_cons, List.take_zero, List.take_succ_cons, List.take_nil, List.drop_nil, true_and, and_true, decide_true, decide_false, Nat.reduceMul, Nat.zero_mul, Nat.one_mul, Nat.mul_one, g2]
      refine Add_ok a0 a1 hC fun H3 h3 => ?_
      simp only [RS, List.cons_append, List.nil_append, Option.isNone_some, Option.isNone_none, Option.isSome_some, Option.isSome_none, Nat.zero_add, Nat.add_zero, Nat.reduceAdd, List.getElem?_cons_zero, List.getElem?_cons_succ, List.length_cons, List.length_nil, List.all_cons, List.all_nil, Bool.and_self, Bool.and_true, Bool.true_and, Option.bind_some, Nat.reduceLeDiff, Nat.reduceEqDiff, Nat.le_refl, and_self, if_true, if_false, List.drop_zero, List.drop_succ_cons, List.take_zero, List.take_succ_cons, List.take_nil, List.drop_nil, true_and, and_true, decide_true, decide_false, Nat.reduceMul, Nat.zero_mul, Nat.one_mul, Nat.mul_one, gZ h3]
      refine RAdd_ok hm a0 a1 (toR h3) fun H4 h4 => ?_
      simp only [RS, List.cons_append, List.nil_append, Option.isNone_some, Option.isNone_none, Option.isSome_some, Option.isSome_none, Nat.zero_add, Nat.add_zero, Nat.reduceAdd, List.getElem?_cons_zero, List.getElem?_cons_succ, List.length_cons, List.length_nil, List.all_cons, List.all_nil, Bool.and_self, Bool.and_true, Bool.true_and, Option.bind_some, Nat.reduceLeDiff, Nat.reduceEqDiff, Nat.le_refl, and_self, if_true, if_false, List.drop_zero, List.drop_succ_cons, List.take_zero, List.take_succ_cons, List.take_nil, List.drop_nil, true_and, and_true, decide_true, decide_false, Nat.reduceMul, Nat.zero_mul, Nat.one_mul, Nat.mul_one, beq_self_eq_true]
      exact fin h4
    have e4 : (x.k.tmod 7 == 4) = false := by simpa using q4
    simp only [e4, RS, List.cons_append, List.nil_append, Option.isNone_some, Option.isNone_none, Option.isSome_some, Option.isSome_none, Nat.zero_add, Nat.add_zero, Nat.reduceAdd, List.getElem?_cons_zero, List.getElem?_cons_succ, List.length_cons, List.length_nil, List.all_cons, List.all_nil, Bool.and_self, Bool.and_true, Bool.true_and, Option.bind_some, Nat.reduceLeDiff, Nat.reduceEqDiff, Nat.le_refl, and_self, if_true, if_false, List.drop_zero, List.drop_succ_cons, List.take_zero, List.take_succ_cons, List.take_nil, List.drop_nil, true_and, and_true, decide_true, decide_false, Nat.reduceMul, Nat.zero_mul, Nat.one_mul, Nat.mul_one]
    by_cases q5 : x.k.tmod 7 = 5
    · have e5 : (x.k.tmod 7 == 5) = true := by simpa using q5
      simp only [e5, RS, List.cons_append, List.nil_append, Option.isNone_some, Option.isNone_none, Option.isSome_some, Option.isSome_none, Nat.zero_add, Nat.add_zero, Nat.reduceAdd, List.getElem?_cons_zero, List.getElem?_cons_succ, List.length_cons, List.length_nil, List.all_cons, List.all_nil, Bool.and_self, Bool.and_true, Bool.true_and, Option.bind_some, Nat.reduceLeDiff, Nat.reduceEqDiff, Nat.le_refl, and_self, if_true, if_false, List.drop_zero, List.drop_succ_cons, List.take_zero, List.take_succ_cons, List.take_nil, List.drop_nil, true_and, and_true, decide_true, decide_false, Nat.reduceMul, Nat.zero_mul, Nat.one_mul, Nat.mul_one, g2]
      refine And_ok a0 a1 hC fun H3 h3 => ?_
      simp only [RS, List.cons_append, List.nil_append, Option.isNone_some, Option.isNone_none, Option.isSome_some, Option.isSome_none, Nat.zero_add, Nat.add_zero, Nat.reduceAdd, List.getElem?_cons_zero, List.getElem?_cons_succ, List.length_cons, List.length_nil, List.all_cons, List.all_nil, Bool.and_self, Bool.and_true, Bool.true_and, Option.bind_some, Nat.reduceLeDiff, Nat.reduceEqDiff, Nat.le_refl, and_self, if_true, if_false, List.drop_zero, List.drop_succ_cons, List.take_zero, List.take_succ_cons, List.take_nil, List.drop_nil, true_and, and_true, decide_true, decide_false, Nat.reduceMul, Nat.zero_mul, Nat.one_mul, Nat.mul_one, gZ h3]
      refine RAnd_ok hm a0 a1 (toR h3) fun H4 h4 => ?_
      simp only [RS, List.cons_append, List.nil_append, Option.isNone_some, Option.isNone_none, Option.isSome_some, Option.isSome_none, Nat.zero_add, Nat.add_zero, Nat.reduceAdd, List.getElem?_cons_zero, List.getElem?_cons_succ, List.length_cons, List.length_nil, List.all_cons, List.all_nil, Bool.and_self, Bool.and_true, Bool.true_and, Option.bind_some, Nat.reduceLeDiff, Nat.reduceEqDiff, Nat.le_refl, and_self, if_true, if_false, List.drop_zero, List.drop_succ_cons, List.take_zero, List.take_succ_cons, List.take_nil, List.drop_nil, true_and, and_true, decide_true, decide_false, Nat.reduceMul, Nat.zero_mul, Nat.one_mul, Nat.mul_one, beq_self_eq_true]
      exact fin h4
    have e5 : (x.k.tmod 7 == 5) = false := by simpa using q5
    simp only [e5, RS, List.cons_append, List.nil_append, Option.isNone_some, Option.isNone_none, Option.isSome_some, Option.isSome_none, Nat.zero_add, Nat.add_zero, Nat.reduceAdd, List.getElem?_cons_zero, List.getElem?_cons_succ, List.length_cons, List.length_nil, List.all_cons, List.all_nil, Bool.and_self, Bool.and_true, Bool.true_and, Option.bind_some, Nat.reduceLeDiff, Nat.reduceEqDiff, Nat.le_refl, and_self, if_true, if_false, List.drop_zero, List.drop_succ_cons, List.take_zero, List.take_succ_cons, List.take_nil, List.drop_nil, true_and, and_true, decide_true, decide_false, Nat.reduceMul, Nat.zero_mul, Nat.one_mul, Nat.mul_one, g2]
    refine Or_ok a0 a1 hC fun H3 h3 => ?_
    simp only [RS, List.cons_append, List.nil_append, Option.isNone_some, Option.isNone_none, Option.isSome_some, Option.isSome_none, Nat.zero_add, Nat.add_zero, Nat.reduceAdd, List.getElem?_cons_zero, List.getElem?_cons_succ, List.length_cons, List.length_nil, List.all_cons, List.all_nil, Bool.and_self, Bool.and_true, Bool.true_and, Option.bind_some, Nat.reduceLeDiff, Nat.reduceEqDiff, Nat.le_refl, and_self, if_true, if_false, List.drop_zero, List.drop_succ_cons, List.take_zero, List.take_succ_cons, List.take_nil, List.drop_nil, true_and, and_true, decide_true, decide_false, Nat.reduceMul, Nat.zero_mul, Nat.one_mul, Nat.mul_one, gZ h3]
    refine ROr_ok hm a0 a1 (toR h3) fun H4 h4 => ?_
    simp only [RS, List.cons_append, List.nil_append, Option.isNone_some, Option.isNone_none, Option.isSome_some, Option.isSome_none, Nat.zero_add, Nat.add_zero, Nat.reduceAdd, List.getElem?_cons_zero, List.getElem?_cons_succ, List.length_cons, List.length_nil, List.all_cons, List.all_nil, Bool.and_self, Bool.and_true, Bool.true_and, Option.bind_some, Nat.reduceLeDiff, Nat.reduceEqDiff, Nat.le_refl, and_self, if_true, if_false, List.drop_zero, List.drop_succ_cons, List.take_zero, List.take_succ_cons, List.take_nil, List.drop_nil, true_and, and_true, decide_true, decide_false, Nat.reduceMul, Nat.zero_mul, Nat.one_mul, Nat.mul_one, beq_self_eq_true]
    exact fin h4
  · intro R hR
    simp only [RS, List.cons_append, List.nil_append, Option.isNone_some, Option.isNone_none, Option.isSome_some, Option.isSome_none, Nat.zero_add, Nat.add_zero, Nat.reduceAdd, List.getElem?_cons_zero, List.getElem?_cons_succ, List.length_cons, List.length_nil, List.all_cons, List.all_nil, Bool.and_self, Bool.and_true, Bool.true_and, Option.bind_some, Nat.reduceLeDiff, Nat.reduceEqDiff, Nat.le_refl, and_self, if_true, if_false, List.drop_zero, List.drop_succ_cons, List.take_zero, List.take_succ_cons, List.take_nil, List.drop_nil, true_and, and_true, decide_true, decide_false, Nat.reduceMul, Nat.zero_mul, Nat.one_mul, Nat.mul_one, gX hs1]
    cases hr : x.r with
    | true =>
      simp only [RS, List.cons_append, List.nil_append, Option.isNone_some, Option.isNone_none, Option.isSome_some, Option.isSome_none, Nat.zero_add, Nat.add_zero, Nat.reduceAdd, List.getElem?_cons_zero, List.getElem?_cons_succ, List.length_cons, List.length_nil, List.all_cons, List.all_nil, Bool.and_self, Bool.and_true, Bool.true_and, Option.bind_some, Nat.reduceLeDiff, Nat.reduceEqDiff, Nat.le_refl, and_self, if_true, if_false, List.drop_zero, List.drop_succ_cons, List.take_zero, List.take_succ_cons, List.take_nil, List.drop_nil, true_and, and_true, decide_true, decide_false, Nat.reduceMul, Nat.zero_mul, Nat.one_mul, Nat.mul_one, gX hs1]
      refine RPeek_ok hm (F := F * (CellsP c s * pts n (.cells [.int .u8 x.k, .int .u32 x.a, .int .u64 x.v, .int .u64 x.w, .bool x.r] Ty.laybylaw02_Act .fix))) (sat_of_eq hs1 (by ac_rfl)) ?_
      simp only [RS, List.cons_append, List.nil_append, Option.isNone_some, Option.isNone_none, Option.isSome_some, Option.isSome_none, Nat.zero_add, Nat.add_zero, Nat.reduceAdd, List.getElem?_cons_zero, List.getElem?_cons_succ, List.length_cons, List.length_nil, List.all_cons, List.all_nil, Bool.and_self, Bool.and_true, Bool.true_and, Option.bind_some, Nat.reduceLeDiff, Nat.reduceEqDiff, Nat.le_refl, and_self, if_true, if_false, List.drop_zero, List.drop_succ_cons, List.take_zero, List.take_succ_cons, List.take_nil, List.drop_nil, true_and, and_true, decide_true, decide_false, Nat.reduceMul, Nat.zero_mul, Nat.one_mul, Nat.mul_one, gX hs1, get_put_eq, get_put_ne, get_new_eq, get_new_ne]
      refine hR _ _ ⟨s.f x.a, rfl, ?_⟩
      have := sat_put (.cells [.int .u8 x.k, .int .u32 x.a, .int .u64 x.v, .int .u64 (s.f x.a), .bool x.r] Ty.laybylaw02_Act .fix) hs1
      rw [hr] at this ⊢
      exact this
    | false =>
      simp only [RS, List.cons_append, List.nil_append, Option.isNone_some, Option.isNone_none, Option.isSome_some, Option.isSome_none, Nat.zero_add, Nat.add_zero, Nat.reduceAdd, List.getElem?_cons_zero, List.getElem?_cons_succ, List.length_cons, List.length_nil, List.all_cons, List.all_nil, Bool.and_self, Bool.and_true, Bool.true_and, Option.bind_some, Nat.reduceLeDiff, Nat.reduceEqDiff, Nat.le_refl, and_self, if_true, if_false, List.drop_zero, List.drop_succ_cons, List.take_zero, List.take_succ_cons, List.take_nil, List.drop_nil, true_and, and_true, decide_true, decide_false, Nat.reduceMul, Nat.zero_mul, Nat.one_mul, Nat.mul_one]
      refine hR _ _ ⟨x.w, rfl, ?_⟩
      rw [hr] at hs1 ⊢; exact hs1
end Go.Proofs.Ytiolnpeniklhiaa
