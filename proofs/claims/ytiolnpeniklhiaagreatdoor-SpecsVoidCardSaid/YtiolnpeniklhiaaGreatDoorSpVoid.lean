/- No state has faults alone, and nothing; one that no call made is a new one; a note with a fault changes nothing: the law's run.
   Conditions: what stands in memory, as each states it. -/
import Derived.Test.YtiolnpeniklhiaaGreatDoorSpPlay
namespace Go.Proofs.YtiolnpeniklhiaaGreatDoor
open Go Go.Ab
set_option linter.all false
set_option maxRecDepth 100000
section
variable {H : AH} {F : SL} {K : KV} {s : SS} {p r : Nat} {a : Int}
theorem RwNil_ok (hs : sat H F) (hK : ∀ H', sat H' F → K (rwV (.slice none 0 0) .zero) H') : DS Tryz.prog Fi.specs_State_Rw [.pointer none, .int .u32 a] H K := by
  refine use_specs_State_Rw 0 ?_
  unfold sh_specs_State_Rw
  have h1 := sat_new (.cells [.slice none 0 0, .int .i64 0, .int .i64 0, .bool false] Ty.specs_Rw .fix) hs
  have g1 := (sat_get h1).1
  simp only [RS, List.cons_append, List.nil_append, Option.isNone_some, Option.isNone_none, Option.isSome_some, Option.isSome_none, Nat.zero_add, Nat.add_zero, Nat.reduceAdd, List.getElem?_cons_zero, List.getElem?_cons_succ, List.length_cons, List.length_nil, List.all_cons, List.all_nil, Bool.and_self, Bool.and_true, Bool.true_and, Option.bind_some, Nat.reduceLeDiff, Nat.reduceEqDiff, Nat.le_refl, and_self, if_true, if_false, List.drop_zero, List.drop_succ_cons, List.take_zero, List.take_succ_cons, List.take_nil, List.drop_nil, true_and, and_true, decide_true, decide_false, Nat.reduceMul, Nat.zero_mul, Nat.one_mul, Nat.mul_one, g1, get_put_eq]
  exact hK _ (sat_sub (sat_put _ h1))
theorem OnceNil_ok (hs : sat H F) (hK : ∀ H', sat H' F → K (onV .zero) H') : DS Tryz.prog Fi.specs_State_Once [.pointer none, .int .u32 a] H K := by
  refine use_specs_State_Once 0 ?_
  unfold sh_specs_State_Once
  have h1 := sat_new (.cells [.int .i64 0, .bool false, .bool false] Ty.specs_Once .fix) hs
  have g1 := (sat_get h1).1
  simp only [RS, List.cons_append, List.nil_append, Option.isNone_some, Option.isNone_none, Option.isSome_some, Option.isSome_none, Nat.zero_add, Nat.add_zero, Nat.reduceAdd, List.getElem?_cons_zero, List.getElem?_cons_succ, List.length_cons, List.length_nil, List.all_cons, List.all_nil, Bool.and_self, Bool.and_true, Bool.true_and, Option.bind_some, Nat.reduceLeDiff, Nat.reduceEqDiff, Nat.le_refl, and_self, if_true, if_false, List.drop_zero, List.drop_succ_cons, List.take_zero, List.take_succ_cons, List.take_nil, List.drop_nil, true_and, and_true, decide_true, decide_false, Nat.reduceMul, Nat.zero_mul, Nat.one_mul, Nat.mul_one, g1, get_put_eq]
  exact hK _ (sat_sub (sat_put _ h1))
theorem SawNil_ok {n : NV} (hs : sat H F) (hK : ∀ H', sat H' F → K (.int .u8 1) H') : DS Tryz.prog Fi.specs_State_Saw [.pointer none, n.val] H K := by
  refine use_specs_State_Saw 0 ?_
  unfold sh_specs_State_Saw
  have h1 := sat_new (.cells n.row Ty.notes_Note .fix) hs
  simp only [RS, List.cons_append, List.nil_append, Option.isNone_some, Option.isNone_none, Option.isSome_some, Option.isSome_none, Nat.zero_add, Nat.add_zero, Nat.reduceAdd, List.getElem?_cons_zero, List.getElem?_cons_succ, List.length_cons, List.length_nil, List.all_cons, List.all_nil, Bool.and_self, Bool.and_true, Bool.true_and, Option.bind_some, Nat.reduceLeDiff, Nat.reduceEqDiff, Nat.le_refl, and_self, if_true, if_false, List.drop_zero, List.drop_succ_cons, List.take_zero, List.take_succ_cons, List.take_nil, List.drop_nil, true_and, and_true, decide_true, decide_false, Nat.reduceMul, Nat.zero_mul, Nat.one_mul, Nat.mul_one]
  exact hK _ (sat_sub h1)
theorem MutexNil_ok (hK : K (.int .i64 (-1)) H) : DS Tryz.prog Fi.specs_State_Mutex [.pointer none, .int .u32 a] H K := by
  refine use_specs_State_Mutex 0 ?_
  unfold sh_specs_State_Mutex
  simp only [RS, List.cons_append, List.nil_append, Option.isNone_some, Option.isNone_none, Option.isSome_some, Option.isSome_none, Nat.zero_add, Nat.add_zero, Nat.reduceAdd, List.getElem?_cons_zero, List.getElem?_cons_succ, List.length_cons, List.length_nil, List.all_cons, List.all_nil, Bool.and_self, Bool.and_true, Bool.true_and, Option.bind_some, Nat.reduceLeDiff, Nat.reduceEqDiff, Nat.le_refl, and_self, if_true, if_false, List.drop_zero, List.drop_succ_cons, List.take_zero, List.take_succ_cons, List.take_nil, List.drop_nil, true_and, and_true, decide_true, decide_false, Nat.reduceMul, Nat.zero_mul, Nat.one_mul, Nat.mul_one]
  exact hK
theorem QueueNil_ok (hK : K (.slice none 0 0) H) : DS Tryz.prog Fi.specs_State_Queue [.pointer none, .int .u32 a] H K := by
  refine use_specs_State_Queue 0 ?_
  unfold sh_specs_State_Queue
  simp only [RS, List.cons_append, List.nil_append, Option.isNone_some, Option.isNone_none, Option.isSome_some, Option.isSome_none, Nat.zero_add, Nat.add_zero, Nat.reduceAdd, List.getElem?_cons_zero, List.getElem?_cons_succ, List.length_cons, List.length_nil, List.all_cons, List.all_nil, Bool.and_self, Bool.and_true, Bool.true_and, Option.bind_some, Nat.reduceLeDiff, Nat.reduceEqDiff, Nat.le_refl, and_self, if_true, if_false, List.drop_zero, List.drop_succ_cons, List.take_zero, List.take_succ_cons, List.take_nil, List.drop_nil, true_and, and_true, decide_true, decide_false, Nat.reduceMul, Nat.zero_mul, Nat.one_mul, Nat.mul_one]
  exact hK
theorem neq_once : binT .neq (some (.agg [(0, .int), (1, .bool), (2, .bool)])) false (onV .zero) (.agg ⟨[.int .i64 (-1), .bool false, .bool false]⟩) = some (.bool false) := rfl
theorem saw_bad {n : NV} (h : ((sawS s n).1 != 0) = true) : (sawS s n).2 = s := by
  revert h
  unfold sawS
  cases (valid n.kind && thr n.thread && (!n.oth || thr n.other)) with
  | false => intro _; rfl
  | true =>
    cases (s.seen && decide (n.step < s.step)) with
    | true => intro _; rfl
    | false =>
      simp only [cond_true, cond_false]
      intro h
      have : (fltS n.kind s n == 0) = false := by simpa [bne] using h
      rw [this]; rfl
theorem SpecsVoid_ds {a b : NV} (hfa : a.fit) (hfb : b.fit) (hs : sat H (NM * F)) (hK : ∀ H', K (.bool true) H') : DS Tryz.prog Fi.laybylaw37_SpecsVoid [a.val, b.val] H K := by
  obtain ⟨hak, haa, hat, -⟩ := hfa
  obtain ⟨hbk, hba, hbt, -⟩ := hfb
  refine use_laybylaw37_SpecsVoid 0 ?_
  unfold sh_laybylaw37_SpecsVoid
  have h0 := sat_new (.cells b.row Ty.notes_Note .fix) (sat_new (.cells a.row Ty.notes_Note .fix) hs)
  simp only [AH.nx_new] at h0
  generalize hQ : pts (H.nx + 1) (.cells b.row Ty.notes_Note .fix) = PB at h0
  generalize hP : pts H.nx (.cells a.row Ty.notes_Note .fix) = PA at h0
  have gA : ∀ {H' : AH} {G : SL}, sat H' (PA * G) → H'.get H.nx = some (.cells a.row Ty.notes_Note .fix) := fun h => by rw [← hP] at h; exact (sat_get h).1
  have gB : ∀ {H' : AH} {G : SL}, sat H' (PB * G) → H'.get (H.nx + 1) = some (.cells b.row Ty.notes_Note .fix) := fun h => by rw [← hQ] at h; exact (sat_get h).1
  simp only [RS, List.cons_append, List.nil_append, Option.isNone_some, Option.isNone_none, Option.isSome_some, Option.isSome_none, Nat.zero_add, Nat.add_zero, Nat.reduceAdd, List.getElem?_cons_zero, List.getElem?_cons_succ, List.length_cons, List.length_nil, List.all_cons, List.all_nil, Bool.and_self, Bool.and_true, Bool.true_and, Option.bind_some, Nat.reduceLeDiff, Nat.reduceEqDiff, Nat.le_refl, and_self, if_true, if_false, List.drop_zero, List.drop_succ_cons, List.take_zero, List.take_succ_cons, List.take_nil, List.drop_nil, true_and, and_true, decide_true, decide_false, Nat.reduceMul, Nat.zero_mul, Nat.one_mul, Nat.mul_one, gA (sat_sub h0)]
  refine RwNil_ok h0 fun H1 h1 => ?_
  have gn1 : (H1.new (.cells [.slice none 0 0, .int .i64 0, .int .i64 0, .bool false] Ty.specs_Rw .fix)).get H1.nx = some (.cells [.slice none 0 0, .int .i64 0, .int .i64 0, .bool false] Ty.specs_Rw .fix) := by rw [AH.get_new, if_pos rfl]
  have h2 := sat_put (.cells [.slice none 0 0, .int .i64 (LkS.zero.up - 1), .int .i64 (LkS.zero.cl - 1), .bool LkS.zero.wr] Ty.specs_Rw .fix) (sat_new (.cells [.slice none 0 0, .int .i64 0, .int .i64 0, .bool false] Ty.specs_Rw .fix) h1)
  simp only [RS, List.cons_append, List.nil_append, Option.isNone_some, Option.isNone_none, Option.isSome_some, Option.isSome_none, Nat.zero_add, Nat.add_zero, Nat.reduceAdd, List.getElem?_cons_zero, List.getElem?_cons_succ, List.length_cons, List.length_nil, List.all_cons, List.all_nil, Bool.and_self, Bool.and_true, Bool.true_and, Option.bind_some, Nat.reduceLeDiff, Nat.reduceEqDiff, Nat.le_refl, and_self, if_true, if_false, List.drop_zero, List.drop_succ_cons, List.take_zero, List.take_succ_cons, List.take_nil, List.drop_nil, true_and, and_true, decide_true, decide_false, Nat.reduceMul, Nat.zero_mul, Nat.one_mul, Nat.mul_one, gn1, rw_store (w := .slice none 0 0) ⟨rfl, rfl⟩]
  generalize hX1 : pts H1.nx (.cells [.slice none 0 0, .int .i64 (LkS.zero.up - 1), .int .i64 (LkS.zero.cl - 1), .bool LkS.zero.wr] Ty.specs_Rw .fix) = X1 at h2
  have gX1 : ∀ {H' : AH} {G : SL}, sat H' (X1 * G) → H'.get H1.nx = some (.cells [.slice none 0 0, .int .i64 (LkS.zero.up - 1), .int .i64 (LkS.zero.cl - 1), .bool LkS.zero.wr] Ty.specs_Rw .fix) := fun h => by rw [← hX1] at h; exact (sat_get h).1
  generalize (H1.new (.cells [.slice none 0 0, .int .i64 0, .int .i64 0, .bool false] Ty.specs_Rw .fix)).put H1.nx (.cells [.slice none 0 0, .int .i64 (LkS.zero.up - 1), .int .i64 (LkS.zero.cl - 1), .bool LkS.zero.wr] Ty.specs_Rw .fix) = B1 at h2 ⊢
  simp only [RS, List.cons_append, List.nil_append, Option.isNone_some, Option.isNone_none, Option.isSome_some, Option.isSome_none, Nat.zero_add, Nat.add_zero, Nat.reduceAdd, List.getElem?_cons_zero, List.getElem?_cons_succ, List.length_cons, List.length_nil, List.all_cons, List.all_nil, Bool.and_self, Bool.and_true, Bool.true_and, Option.bind_some, Nat.reduceLeDiff, Nat.reduceEqDiff, Nat.le_refl, and_self, if_true, if_false, List.drop_zero, List.drop_succ_cons, List.take_zero, List.take_succ_cons, List.take_nil, List.drop_nil, true_and, and_true, decide_true, decide_false, Nat.reduceMul, Nat.zero_mul, Nat.one_mul, Nat.mul_one, gA (sat_of_eq h2 (by ac_rfl : _ = PA * (PB * (X1 * (NM * F)))))]
  refine SawNil_ok h2 fun H2 h3 => ?_
  have n1 : ((1 : Int) != 1) = false := rfl
  have nm : ((-1 : Int) != -1) = false := rfl
  have nz : ((((0 : Nat) : Int)) != 0) = false := rfl
  have eu : LkS.zero.up - 1 = -1 := rfl
  have ec : LkS.zero.cl - 1 = -1 := rfl
  have ew : LkS.zero.wr = false := rfl
  have gA3 := gA (sat_of_eq h3 (by ac_rfl : _ = PA * (PB * (X1 * (NM * F)))))
  have gX3 := gX1 h3
  rw [eu, ec, ew] at gX3
  simp only [RS, List.cons_append, List.nil_append, Option.isNone_some, Option.isNone_none, Option.isSome_some, Option.isSome_none, Nat.zero_add, Nat.add_zero, Nat.reduceAdd, List.getElem?_cons_zero, List.getElem?_cons_succ, List.length_cons, List.length_nil, List.all_cons, List.all_nil, Bool.and_self, Bool.and_true, Bool.true_and, Option.bind_some, Nat.reduceLeDiff, Nat.reduceEqDiff, Nat.le_refl, and_self, if_true, if_false, List.drop_zero, List.drop_succ_cons, List.take_zero, List.take_succ_cons, List.take_nil, List.drop_nil, true_and, and_true, decide_true, decide_false, Nat.reduceMul, Nat.zero_mul, Nat.one_mul, Nat.mul_one, n1, gA3]
  refine MutexNil_ok ?_
  simp only [RS, List.cons_append, List.nil_append, Option.isNone_some, Option.isNone_none, Option.isSome_some, Option.isSome_none, Nat.zero_add, Nat.add_zero, Nat.reduceAdd, List.getElem?_cons_zero, List.getElem?_cons_succ, List.length_cons, List.length_nil, List.all_cons, List.all_nil, Bool.and_self, Bool.and_true, Bool.true_and, Option.bind_some, Nat.reduceLeDiff, Nat.reduceEqDiff, Nat.le_refl, and_self, if_true, if_false, List.drop_zero, List.drop_succ_cons, List.take_zero, List.take_succ_cons, List.take_nil, List.drop_nil, true_and, and_true, decide_true, decide_false, Nat.reduceMul, Nat.zero_mul, Nat.one_mul, Nat.mul_one, nm, gX3, nz, gA3]
  refine OnceNil_ok h3 fun H3 h4 => ?_
  have gA4 := gA (sat_of_eq h4 (by ac_rfl : _ = PA * (PB * (X1 * (NM * F)))))
  simp only [RS, List.cons_append, List.nil_append, Option.isNone_some, Option.isNone_none, Option.isSome_some, Option.isSome_none, Nat.zero_add, Nat.add_zero, Nat.reduceAdd, List.getElem?_cons_zero, List.getElem?_cons_succ, List.length_cons, List.length_nil, List.all_cons, List.all_nil, Bool.and_self, Bool.and_true, Bool.true_and, Option.bind_some, Nat.reduceLeDiff, Nat.reduceEqDiff, Nat.le_refl, and_self, if_true, if_false, List.drop_zero, List.drop_succ_cons, List.take_zero, List.take_succ_cons, List.take_nil, List.drop_nil, true_and, and_true, decide_true, decide_false, Nat.reduceMul, Nat.zero_mul, Nat.one_mul, Nat.mul_one, neq_once, gA4]
  refine QueueNil_ok ?_
  simp only [RS, List.cons_append, List.nil_append, Option.isNone_some, Option.isNone_none, Option.isSome_some, Option.isSome_none, Nat.zero_add, Nat.add_zero, Nat.reduceAdd, List.getElem?_cons_zero, List.getElem?_cons_succ, List.length_cons, List.length_nil, List.all_cons, List.all_nil, Bool.and_self, Bool.and_true, Bool.true_and, Option.bind_some, Nat.reduceLeDiff, Nat.reduceEqDiff, Nat.le_refl, and_self, if_true, if_false, List.drop_zero, List.drop_succ_cons, List.take_zero, List.take_succ_cons, List.take_nil, List.drop_nil, true_and, and_true, decide_true, decide_false, Nat.reduceMul, Nat.zero_mul, Nat.one_mul, Nat.mul_one, nz]
  have h5 : sat (H3.new (.cells [.int .i64 0, .bool false, .map none, .map none, .map none, .map none, .map none] Ty.specs_State .fix)) (StA H3.nx .zero * (X1 * (PB * (PA * (NM * F))))) := sat_StA.2 (.inr ⟨zero_unb, sat_new _ h4⟩)
  refine New37_ok h5 fun r H4 h6 => ?_
  have gn4 : (H4.new (.cells [.pointer none, .pointer none] Ty.laybylaw37_Pair .fix)).get H4.nx = some (.cells [.pointer none, .pointer none] Ty.laybylaw37_Pair .fix) := by rw [AH.get_new, if_pos rfl]
  have h7 := sat_put (.cells [ptr H3.nx, ptr r] Ty.laybylaw37_Pair .fix) (sat_new (.cells [.pointer none, .pointer none] Ty.laybylaw37_Pair .fix) h6)
  simp only [RS, List.cons_append, List.nil_append, Option.isNone_some, Option.isNone_none, Option.isSome_some, Option.isSome_none, Nat.zero_add, Nat.add_zero, Nat.reduceAdd, List.getElem?_cons_zero, List.getElem?_cons_succ, List.length_cons, List.length_nil, List.all_cons, List.all_nil, Bool.and_self, Bool.and_true, Bool.true_and, Option.bind_some, Nat.reduceLeDiff, Nat.reduceEqDiff, Nat.le_refl, and_self, if_true, if_false, List.drop_zero, List.drop_succ_cons, List.take_zero, List.take_succ_cons, List.take_nil, List.drop_nil, true_and, and_true, decide_true, decide_false, Nat.reduceMul, Nat.zero_mul, Nat.one_mul, Nat.mul_one, gn4]
  generalize hPP : pts H4.nx (.cells [ptr H3.nx, ptr r] Ty.laybylaw37_Pair .fix) = PP at h7
  have gP : ∀ {H' : AH} {G : SL}, sat H' (PP * G) → H'.get H4.nx = some (.cells [ptr H3.nx, ptr r] Ty.laybylaw37_Pair .fix) := fun h => by rw [← hPP] at h; exact (sat_get h).1
  generalize (H4.new (.cells [.pointer none, .pointer none] Ty.laybylaw37_Pair .fix)).put H4.nx (.cells [ptr H3.nx, ptr r] Ty.laybylaw37_Pair .fix) = B4 at h7 ⊢
  have rest : ∀ {H' : AH} {s1 s2 : SS} {L : PL}, sat H' (PP * (StA H3.nx s1 * (RefL r s2 L * (PA * (PB * (NM * (X1 * F))))))) → H'.get H4.nx = some (.cells [ptr H3.nx, ptr r] Ty.laybylaw37_Pair .fix) ∧ H'.get H.nx = some (.cells a.row Ty.notes_Note .fix) ∧ H'.get (H.nx + 1) = some (.cells b.row Ty.notes_Note .fix) :=
    fun h => ⟨gP h, gA (sat_sub (sat_sub (sat_sub h))), gB (sat_sub (sat_sub (sat_sub (sat_sub h))))⟩
  have h8 : sat B4 (PP * (StA H3.nx .zero * (RefL r .zero [] * (PA * (PB * (NM * (X1 * F))))))) := sat_of_eq h7 (by ac_rfl)
  obtain ⟨g1, g2, g3⟩ := rest h8
  simp only [RS, List.cons_append, List.nil_append, Option.isNone_some, Option.isNone_none, Option.isSome_some, Option.isSome_none, Nat.zero_add, Nat.add_zero, Nat.reduceAdd, List.getElem?_cons_zero, List.getElem?_cons_succ, List.length_cons, List.length_nil, List.all_cons, List.all_nil, Bool.and_self, Bool.and_true, Bool.true_and, Option.bind_some, Nat.reduceLeDiff, Nat.reduceEqDiff, Nat.le_refl, and_self, if_true, if_false, List.drop_zero, List.drop_succ_cons, List.take_zero, List.take_succ_cons, List.take_nil, List.drop_nil, true_and, and_true, decide_true, decide_false, Nat.reduceMul, Nat.zero_mul, Nat.one_mul, Nat.mul_one, g1, g2]
  refine Same_ok SS.zero_ok haa (sat_of_eq h8 (by ac_rfl : _ = StA H3.nx .zero * (RefL r .zero [] * (PP * (PA * (PB * (NM * (X1 * F)))))))) fun H5 L5 h9 => ?_
  have h10 : sat H5 (PP * (StA H3.nx .zero * (RefL r .zero L5 * (PA * (PB * (NM * (X1 * F))))))) := sat_of_eq h9 (by ac_rfl)
  obtain ⟨g1, g2, g3⟩ := rest h10
  simp only [RS, List.cons_append, List.nil_append, Option.isNone_some, Option.isNone_none, Option.isSome_some, Option.isSome_none, Nat.zero_add, Nat.add_zero, Nat.reduceAdd, List.getElem?_cons_zero, List.getElem?_cons_succ, List.length_cons, List.length_nil, List.all_cons, List.all_nil, Bool.and_self, Bool.and_true, Bool.true_and, Option.bind_some, Nat.reduceLeDiff, Nat.reduceEqDiff, Nat.le_refl, and_self, if_true, if_false, List.drop_zero, List.drop_succ_cons, List.take_zero, List.take_succ_cons, List.take_nil, List.drop_nil, true_and, and_true, decide_true, decide_false, Nat.reduceMul, Nat.zero_mul, Nat.one_mul, Nat.mul_one, Bool.not_true, g1, g2]
  refine PSaw_ok SS.zero_ok hak haa hat (sat_of_eq h10 (by ac_rfl : _ = StA H3.nx .zero * (RefL r .zero L5 * (NM * (PP * (PA * (PB * (X1 * F)))))))) fun H6 L6 h11 => ?_
  have ho1 := sawS_ok (n := a) SS.zero_ok
  generalize (sawS .zero a).2 = s1 at h11 ho1
  have h12 : sat H6 (PP * (StA H3.nx s1 * (RefL r s1 L6 * (PA * (PB * (NM * (X1 * F))))))) := sat_of_eq h11 (by ac_rfl)
  obtain ⟨g1, g2, g3⟩ := rest h12
  simp only [RS, List.cons_append, List.nil_append, Option.isNone_some, Option.isNone_none, Option.isSome_some, Option.isSome_none, Nat.zero_add, Nat.add_zero, Nat.reduceAdd, List.getElem?_cons_zero, List.getElem?_cons_succ, List.length_cons, List.length_nil, List.all_cons, List.all_nil, Bool.and_self, Bool.and_true, Bool.true_and, Option.bind_some, Nat.reduceLeDiff, Nat.reduceEqDiff, Nat.le_refl, and_self, if_true, if_false, List.drop_zero, List.drop_succ_cons, List.take_zero, List.take_succ_cons, List.take_nil, List.drop_nil, true_and, and_true, decide_true, decide_false, Nat.reduceMul, Nat.zero_mul, Nat.one_mul, Nat.mul_one, Bool.not_true, g1, g2]
  refine Same_ok ho1 haa (sat_of_eq h12 (by ac_rfl : _ = StA H3.nx s1 * (RefL r s1 L6 * (PP * (PA * (PB * (NM * (X1 * F)))))))) fun H7 L7 h13 => ?_
  have h14 : sat H7 (PP * (StA H3.nx s1 * (RefL r s1 L7 * (PA * (PB * (NM * (X1 * F))))))) := sat_of_eq h13 (by ac_rfl)
  obtain ⟨g1, g2, g3⟩ := rest h14
  simp only [RS, List.cons_append, List.nil_append, Option.isNone_some, Option.isNone_none, Option.isSome_some, Option.isSome_none, Nat.zero_add, Nat.add_zero, Nat.reduceAdd, List.getElem?_cons_zero, List.getElem?_cons_succ, List.length_cons, List.length_nil, List.all_cons, List.all_nil, Bool.and_self, Bool.and_true, Bool.true_and, Option.bind_some, Nat.reduceLeDiff, Nat.reduceEqDiff, Nat.le_refl, and_self, if_true, if_false, List.drop_zero, List.drop_succ_cons, List.take_zero, List.take_succ_cons, List.take_nil, List.drop_nil, true_and, and_true, decide_true, decide_false, Nat.reduceMul, Nat.zero_mul, Nat.one_mul, Nat.mul_one, Bool.not_true, g1, g3]
  refine Saw_ok ho1 hbk (sat_of_eq h14 (by ac_rfl : _ = StA H3.nx s1 * (NM * (PP * (RefL r s1 L7 * (PA * (PB * (X1 * F)))))))) fun H8 h15 => ?_
  have ho2 := sawS_ok (n := b) ho1
  have h16 : sat H8 (PP * (StA H3.nx (sawS s1 b).2 * (RefL r s1 L7 * (PA * (PB * (NM * (X1 * F))))))) := sat_of_eq h15 (by ac_rfl)
  obtain ⟨g1, g2, g3⟩ := rest h16
  cases hb : ((sawS s1 b).1 != 0) with
  | true =>
    rw [saw_bad hb] at h16
    simp only [RS, List.cons_append, List.nil_append, Option.isNone_some, Option.isNone_none, Option.isSome_some, Option.isSome_none, Nat.zero_add, Nat.add_zero, Nat.reduceAdd, List.getElem?_cons_zero, List.getElem?_cons_succ, List.length_cons, List.length_nil, List.all_cons, List.all_nil, Bool.and_self, Bool.and_true, Bool.true_and, Option.bind_some, Nat.reduceLeDiff, Nat.reduceEqDiff, Nat.le_refl, and_self, if_true, if_false, List.drop_zero, List.drop_succ_cons, List.take_zero, List.take_succ_cons, List.take_nil, List.drop_nil, true_and, and_true, decide_true, decide_false, Nat.reduceMul, Nat.zero_mul, Nat.one_mul, Nat.mul_one, hb, g1, g2]
    refine Same_ok ho1 haa (sat_of_eq h16 (by ac_rfl : _ = StA H3.nx s1 * (RefL r s1 L7 * (PP * (PA * (PB * (NM * (X1 * F)))))))) fun H9 L9 h17 => ?_
    have h18 : sat H9 (PP * (StA H3.nx s1 * (RefL r s1 L9 * (PA * (PB * (NM * (X1 * F))))))) := sat_of_eq h17 (by ac_rfl)
    obtain ⟨g1, g2, g3⟩ := rest h18
    simp only [RS, List.cons_append, List.nil_append, Option.isNone_some, Option.isNone_none, Option.isSome_some, Option.isSome_none, Nat.zero_add, Nat.add_zero, Nat.reduceAdd, List.getElem?_cons_zero, List.getElem?_cons_succ, List.length_cons, List.length_nil, List.all_cons, List.all_nil, Bool.and_self, Bool.and_true, Bool.true_and, Option.bind_some, Nat.reduceLeDiff, Nat.reduceEqDiff, Nat.le_refl, and_self, if_true, if_false, List.drop_zero, List.drop_succ_cons, List.take_zero, List.take_succ_cons, List.take_nil, List.drop_nil, true_and, and_true, decide_true, decide_false, Nat.reduceMul, Nat.zero_mul, Nat.one_mul, Nat.mul_one, g1, g3]
    refine Same_ok ho1 hba (sat_of_eq h18 (by ac_rfl : _ = StA H3.nx s1 * (RefL r s1 L9 * (PP * (PA * (PB * (NM * (X1 * F)))))))) fun H10 L10 h19 => ?_
    simp only [RS, List.cons_append, List.nil_append, Option.isNone_some, Option.isNone_none, Option.isSome_some, Option.isSome_none, Nat.zero_add, Nat.add_zero, Nat.reduceAdd, List.getElem?_cons_zero, List.getElem?_cons_succ, List.length_cons, List.length_nil, List.all_cons, List.all_nil, Bool.and_self, Bool.and_true, Bool.true_and, Option.bind_some, Nat.reduceLeDiff, Nat.reduceEqDiff, Nat.le_refl, and_self, if_true, if_false, List.drop_zero, List.drop_succ_cons, List.take_zero, List.take_succ_cons, List.take_nil, List.drop_nil, true_and, and_true, decide_true, decide_false, Nat.reduceMul, Nat.zero_mul, Nat.one_mul, Nat.mul_one]
    refine lives37_ok (sat_of_eq h19 (by ac_rfl : _ = NM * (StA H3.nx s1 * (RefL r s1 L10 * (PP * (PA * (PB * (X1 * F)))))))) fun H11 _ => ?_
    exact hK _
  | false =>
    have hz : (sawS s1 b).1 = 0 := by simpa [bne] using hb
    have e0 : ((0 : Int) == 0) = true := rfl
    simp only [RS, List.cons_append, List.nil_append, Option.isNone_some, Option.isNone_none, Option.isSome_some, Option.isSome_none, Nat.zero_add, Nat.add_zero, Nat.reduceAdd, List.getElem?_cons_zero, List.getElem?_cons_succ, List.length_cons, List.length_nil, List.all_cons, List.all_nil, Bool.and_self, Bool.and_true, Bool.true_and, Option.bind_some, Nat.reduceLeDiff, Nat.reduceEqDiff, Nat.le_refl, and_self, if_true, if_false, List.drop_zero, List.drop_succ_cons, List.take_zero, List.take_succ_cons, List.take_nil, List.drop_nil, true_and, and_true, decide_true, decide_false, Nat.reduceMul, Nat.zero_mul, Nat.one_mul, Nat.mul_one, hb, g1, g3]
    refine Other_ok hbk h16 fun H9 h17 => ?_
    obtain ⟨g1, g2, g3⟩ := rest h17
    simp only [RS, List.cons_append, List.nil_append, Option.isNone_some, Option.isNone_none, Option.isSome_some, Option.isSome_none, Nat.zero_add, Nat.add_zero, Nat.reduceAdd, List.getElem?_cons_zero, List.getElem?_cons_succ, List.length_cons, List.length_nil, List.all_cons, List.all_nil, Bool.and_self, Bool.and_true, Bool.true_and, Option.bind_some, Nat.reduceLeDiff, Nat.reduceEqDiff, Nat.le_refl, and_self, if_true, if_false, List.drop_zero, List.drop_succ_cons, List.take_zero, List.take_succ_cons, List.take_nil, List.drop_nil, true_and, and_true, decide_true, decide_false, Nat.reduceMul, Nat.zero_mul, Nat.one_mul, Nat.mul_one, g1, same_refl]
    refine RSaw_ok ho1 hbk hba hbt (sat_of_eq h17 (by ac_rfl : _ = RefL r s1 L7 * (PP * (StA H3.nx (sawS s1 b).2 * (PA * (PB * (NM * (X1 * F)))))))) fun H10 L10 h18 => ?_
    rw [hz]
    have h19 : sat H10 (PP * (StA H3.nx (sawS s1 b).2 * (RefL r (sawS s1 b).2 L10 * (PA * (PB * (NM * (X1 * F))))))) := sat_of_eq h18 (by ac_rfl)
    obtain ⟨g1, g2, g3⟩ := rest h19
    simp only [gdD, RS, List.cons_append, List.nil_append, Option.isNone_some, Option.isNone_none, Option.isSome_some, Option.isSome_none, Nat.zero_add, Nat.add_zero, Nat.reduceAdd, List.getElem?_cons_zero, List.getElem?_cons_succ, List.length_cons, List.length_nil, List.all_cons, List.all_nil, Bool.and_self, Bool.and_true, Bool.true_and, Option.bind_some, Nat.reduceLeDiff, Nat.reduceEqDiff, Nat.le_refl, and_self, if_true, if_false, List.drop_zero, List.drop_succ_cons, List.take_zero, List.take_succ_cons, List.take_nil, List.drop_nil, true_and, and_true, decide_true, decide_false, Nat.reduceMul, Nat.zero_mul, Nat.one_mul, Nat.mul_one, e0, g1, g3]
    refine Same_ok ho2 hba (sat_of_eq h19 (by ac_rfl : _ = StA H3.nx (sawS s1 b).2 * (RefL r (sawS s1 b).2 L10 * (PP * (PA * (PB * (NM * (X1 * F)))))))) fun H11 L11 h20 => ?_
    simp only [gdD, RS, List.cons_append, List.nil_append, Option.isNone_some, Option.isNone_none, Option.isSome_some, Option.isSome_none, Nat.zero_add, Nat.add_zero, Nat.reduceAdd, List.getElem?_cons_zero, List.getElem?_cons_succ, List.length_cons, List.length_nil, List.all_cons, List.all_nil, Bool.and_self, Bool.and_true, Bool.true_and, Option.bind_some, Nat.reduceLeDiff, Nat.reduceEqDiff, Nat.le_refl, and_self, if_true, if_false, List.drop_zero, List.drop_succ_cons, List.take_zero, List.take_succ_cons, List.take_nil, List.drop_nil, true_and, and_true, decide_true, decide_false, Nat.reduceMul, Nat.zero_mul, Nat.one_mul, Nat.mul_one]
    refine lives37_ok (sat_of_eq h20 (by ac_rfl : _ = NM * (StA H3.nx (sawS s1 b).2 * (RefL r (sawS s1 b).2 L11 * (PP * (PA * (PB * (X1 * F)))))))) fun H12 _ => ?_
    exact hK _
end
end Go.Proofs.YtiolnpeniklhiaaGreatDoor
