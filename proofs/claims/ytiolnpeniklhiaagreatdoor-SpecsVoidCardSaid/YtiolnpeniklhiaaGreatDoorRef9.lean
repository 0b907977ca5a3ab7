/- The program's state and the document's, side by side: both tell the same; a note seen by both.
   Conditions: what stands in memory, as each states it. -/
import Derived.Test.YtiolnpeniklhiaaGreatDoorRef8
namespace Go.Proofs.YtiolnpeniklhiaaGreatDoor
open Go Go.Ab
set_option linter.all false
set_option maxRecDepth 100000
section
variable {H : AH} {F : SL} {K : KV} {s : SS} {r p : Nat} {L : PL} {n : NV} {a : Int}
theorem told_cell {H : AH} {v : Value} {xs : List Int} {F : SL} (h : sat H (toldA v xs * F)) : cellsL v = [v] ∧ plain v = true := by
  rcases sat_told.1 h with ⟨rfl, rfl, -⟩ | ⟨m, k, rfl, -⟩ <;> exact ⟨rfl, rfl⟩
/-- What is told of a lock, laid down. -/
theorem rw_store {T : TypeId} {w : Value} {y : LkS} {m : Nat} (hw : cellsL w = [w] ∧ plain w = true) (H2 : AH) : stO 4 m 0 (rwV w y) H2 (some (.cells [.slice none 0 0, .int .i64 0, .int .i64 0, .bool false] T .fix)) = some (.tuple ⟨[]⟩, H2.put m (.cells [w, .int .i64 (y.up - 1), .int .i64 (y.cl - 1), .bool y.wr] T .fix)) :=
  (stO_N 4 _ _ _ _ _ _ _ rfl rfl (by simp only [List.all_cons, hw.2, plain_int, plain_bool, List.all_nil, Bool.and_self]) (by simp)).trans (by simp [splice])
theorem on_store {T : TypeId} {x : OnS} {m : Nat} (H2 : AH) : stO 3 m 0 (onV x) H2 (some (.cells [.int .i64 0, .bool false, .bool false] T .fix)) = some (.tuple ⟨[]⟩, H2.put m (.cells [.int .i64 (x.by_ - 1), .bool x.dn, .bool x.sk] T .fix)) :=
  (stO_N 3 _ _ _ _ _ _ _ rfl rfl (by simp [plain]) (by simp)).trans (by simp [splice])
theorem Same_ok (ho : s.ok) (ha : 0 ≤ a ∧ a < 4294967296) (hs : sat H (StA p s * (RefL r s L * F))) (hK : ∀ H' L', sat H' (StA p s * (RefL r s L' * F)) → K (.bool true) H') : DS Tryz.prog Fi.laybylaw37_Pair_Same [pairV p r, .int .u32 a] H K := by
  refine use_laybylaw37_Pair_Same 0 ?_
  unfold sh_laybylaw37_Pair_Same
  simp only [RS, List.cons_append, List.nil_append, Option.isNone_some, Option.isNone_none, Option.isSome_some, Option.isSome_none, Nat.zero_add, Nat.add_zero, Nat.reduceAdd, List.getElem?_cons_zero, List.getElem?_cons_succ, List.length_cons, List.length_nil, List.all_cons, List.all_nil, Bool.and_self, Bool.and_true, Bool.true_and, Option.bind_some, Nat.reduceLeDiff, Nat.reduceEqDiff, Nat.le_refl, and_self, if_true, if_false, List.drop_zero, List.drop_succ_cons, List.take_zero, List.take_succ_cons, List.take_nil, List.drop_nil, true_and, and_true, decide_true, decide_false, Nat.reduceMul, Nat.zero_mul, Nat.one_mul, Nat.mul_one]
  have h0 := sat_new (.cells [ptr p, ptr r] Ty.laybylaw37_Pair .fix) hs
  generalize hP : pts H.nx (.cells [ptr p, ptr r] Ty.laybylaw37_Pair .fix) = PP at h0
  have gP : ∀ {H' : AH} {G : SL}, sat H' (PP * G) → H'.get H.nx = some (.cells [ptr p, ptr r] Ty.laybylaw37_Pair .fix) := fun h => by rw [← hP] at h; exact (sat_get h).1
  have g0 := gP h0
  simp only [RS, List.cons_append, List.nil_append, Option.isNone_some, Option.isNone_none, Option.isSome_some, Option.isSome_none, Nat.zero_add, Nat.add_zero, Nat.reduceAdd, List.getElem?_cons_zero, List.getElem?_cons_succ, List.length_cons, List.length_nil, List.all_cons, List.all_nil, Bool.and_self, Bool.and_true, Bool.true_and, Option.bind_some, Nat.reduceLeDiff, Nat.reduceEqDiff, Nat.le_refl, and_self, if_true, if_false, List.drop_zero, List.drop_succ_cons, List.take_zero, List.take_succ_cons, List.take_nil, List.drop_nil, true_and, and_true, decide_true, decide_false, Nat.reduceMul, Nat.zero_mul, Nat.one_mul, Nat.mul_one, g0]
  refine Rw_ok ho (sat_of_eq h0 (by ac_rfl : _ = StA p s * (PP * (RefL r s L * F)))) fun v H1 h1 => ?_
  generalize hy : s.lk a = y at *
  have hlen1 : (srt y.rd).length ≤ 64 := srtN_len _ 64
  -- what was told, laid down
  have h2 := sat_put (.cells [v, .int .i64 (y.up - 1), .int .i64 (y.cl - 1), .bool y.wr] Ty.specs_Rw .fix) (sat_new (.cells [.slice none 0 0, .int .i64 0, .int .i64 0, .bool false] Ty.specs_Rw .fix) h1)
  have gn1 : (H1.new (.cells [.slice none 0 0, .int .i64 0, .int .i64 0, .bool false] Ty.specs_Rw .fix)).get H1.nx = some (.cells [.slice none 0 0, .int .i64 0, .int .i64 0, .bool false] Ty.specs_Rw .fix) := by rw [AH.get_new, if_pos rfl]
  simp only [RS, List.cons_append, List.nil_append, Option.isNone_some, Option.isNone_none, Option.isSome_some, Option.isSome_none, Nat.zero_add, Nat.add_zero, Nat.reduceAdd, List.getElem?_cons_zero, List.getElem?_cons_succ, List.length_cons, List.length_nil, List.all_cons, List.all_nil, Bool.and_self, Bool.and_true, Bool.true_and, Option.bind_some, Nat.reduceLeDiff, Nat.reduceEqDiff, Nat.le_refl, and_self, if_true, if_false, List.drop_zero, List.drop_succ_cons, List.take_zero, List.take_succ_cons, List.take_nil, List.drop_nil, true_and, and_true, decide_true, decide_false, Nat.reduceMul, Nat.zero_mul, Nat.one_mul, Nat.mul_one, gn1, rw_store (told_cell h1)]
  generalize hX1 : pts H1.nx (.cells [v, .int .i64 (y.up - 1), .int .i64 (y.cl - 1), .bool y.wr] Ty.specs_Rw .fix) = X1 at h2
  have gX1 : ∀ {H' : AH} {G : SL}, sat H' (X1 * G) → H'.get H1.nx = some (.cells [v, .int .i64 (y.up - 1), .int .i64 (y.cl - 1), .bool y.wr] Ty.specs_Rw .fix) := fun h => by rw [← hX1] at h; exact (sat_get h).1
  generalize hB1 : (H1.new (.cells [.slice none 0 0, .int .i64 0, .int .i64 0, .bool false] Ty.specs_Rw .fix)).put H1.nx (.cells [v, .int .i64 (y.up - 1), .int .i64 (y.cl - 1), .bool y.wr] Ty.specs_Rw .fix) = B1 at h2 ⊢
  have h3 : sat B1 (PP * (RefL r s L * (StA p s * (toldA v (srt y.rd) * (X1 * F))))) := sat_of_eq h2 (by ac_rfl)
  simp only [RS, List.cons_append, List.nil_append, Option.isNone_some, Option.isNone_none, Option.isSome_some, Option.isSome_none, Nat.zero_add, Nat.add_zero, Nat.reduceAdd, List.getElem?_cons_zero, List.getElem?_cons_succ, List.length_cons, List.length_nil, List.all_cons, List.all_nil, Bool.and_self, Bool.and_true, Bool.true_and, Option.bind_some, Nat.reduceLeDiff, Nat.reduceEqDiff, Nat.le_refl, and_self, if_true, if_false, List.drop_zero, List.drop_succ_cons, List.take_zero, List.take_succ_cons, List.take_nil, List.drop_nil, true_and, and_true, decide_true, decide_false, Nat.reduceMul, Nat.zero_mul, Nat.one_mul, Nat.mul_one, gP h3]
  refine RRw_ok ho ha (sat_of_eq h3 (by ac_rfl : _ = RefL r s L * (PP * (StA p s * (toldA v (srt y.rd) * (X1 * F)))))) fun w H2 L2 h4 => ?_
  simp only [hy] at h4 ⊢
  have h5 := sat_put (.cells [w, .int .i64 (y.up - 1), .int .i64 (y.cl - 1), .bool y.wr] Ty.laybyref37_Rw .fix) (sat_new (.cells [.slice none 0 0, .int .i64 0, .int .i64 0, .bool false] Ty.laybyref37_Rw .fix) h4)
  have gn2 : (H2.new (.cells [.slice none 0 0, .int .i64 0, .int .i64 0, .bool false] Ty.laybyref37_Rw .fix)).get H2.nx = some (.cells [.slice none 0 0, .int .i64 0, .int .i64 0, .bool false] Ty.laybyref37_Rw .fix) := by rw [AH.get_new, if_pos rfl]
  simp only [RS, List.cons_append, List.nil_append, Option.isNone_some, Option.isNone_none, Option.isSome_some, Option.isSome_none, Nat.zero_add, Nat.add_zero, Nat.reduceAdd, List.getElem?_cons_zero, List.getElem?_cons_succ, List.length_cons, List.length_nil, List.all_cons, List.all_nil, Bool.and_self, Bool.and_true, Bool.true_and, Option.bind_some, Nat.reduceLeDiff, Nat.reduceEqDiff, Nat.le_refl, and_self, if_true, if_false, List.drop_zero, List.drop_succ_cons, List.take_zero, List.take_succ_cons, List.take_nil, List.drop_nil, true_and, and_true, decide_true, decide_false, Nat.reduceMul, Nat.zero_mul, Nat.one_mul, Nat.mul_one, gn2, rw_store (slice_cell h4)]
  generalize hX2 : pts H2.nx (.cells [w, .int .i64 (y.up - 1), .int .i64 (y.cl - 1), .bool y.wr] Ty.laybyref37_Rw .fix) = X2 at h5
  have gX2 : ∀ {H' : AH} {G : SL}, sat H' (X2 * G) → H'.get H2.nx = some (.cells [w, .int .i64 (y.up - 1), .int .i64 (y.cl - 1), .bool y.wr] Ty.laybyref37_Rw .fix) := fun h => by rw [← hX2] at h; exact (sat_get h).1
  generalize hB2 : (H2.new (.cells [.slice none 0 0, .int .i64 0, .int .i64 0, .bool false] Ty.laybyref37_Rw .fix)).put H2.nx (.cells [w, .int .i64 (y.up - 1), .int .i64 (y.cl - 1), .bool y.wr] Ty.laybyref37_Rw .fix) = B2 at h5 ⊢
  have h6 : sat B2 (PP * (StA p s * (RefL r s L2 * (toldA v (srt y.rd) * (X1 * (sliceA true w (srt y.rd) * (X2 * F))))))) := sat_of_eq h5 (by ac_rfl)
  simp only [RS, List.cons_append, List.nil_append, Option.isNone_some, Option.isNone_none, Option.isSome_some, Option.isSome_none, Nat.zero_add, Nat.add_zero, Nat.reduceAdd, List.getElem?_cons_zero, List.getElem?_cons_succ, List.length_cons, List.length_nil, List.all_cons, List.all_nil, Bool.and_self, Bool.and_true, Bool.true_and, Option.bind_some, Nat.reduceLeDiff, Nat.reduceEqDiff, Nat.le_refl, and_self, if_true, if_false, List.drop_zero, List.drop_succ_cons, List.take_zero, List.take_succ_cons, List.take_nil, List.drop_nil, true_and, and_true, decide_true, decide_false, Nat.reduceMul, Nat.zero_mul, Nat.one_mul, Nat.mul_one, gP h6]
  refine Once_ok ho (sat_of_eq h6 (by ac_rfl : _ = StA p s * (PP * (RefL r s L2 * (toldA v (srt y.rd) * (X1 * (sliceA true w (srt y.rd) * (X2 * F)))))))) fun H3 h7 => ?_
  generalize hx : s.on a = x at *
  have h8 := sat_put (.cells [.int .i64 (x.by_ - 1), .bool x.dn, .bool x.sk] Ty.specs_Once .fix) (sat_new (.cells [.int .i64 0, .bool false, .bool false] Ty.specs_Once .fix) h7)
  have gn3 : (H3.new (.cells [.int .i64 0, .bool false, .bool false] Ty.specs_Once .fix)).get H3.nx = some (.cells [.int .i64 0, .bool false, .bool false] Ty.specs_Once .fix) := by rw [AH.get_new, if_pos rfl]
  simp only [RS, List.cons_append, List.nil_append, Option.isNone_some, Option.isNone_none, Option.isSome_some, Option.isSome_none, Nat.zero_add, Nat.add_zero, Nat.reduceAdd, List.getElem?_cons_zero, List.getElem?_cons_succ, List.length_cons, List.length_nil, List.all_cons, List.all_nil, Bool.and_self, Bool.and_true, Bool.true_and, Option.bind_some, Nat.reduceLeDiff, Nat.reduceEqDiff, Nat.le_refl, and_self, if_true, if_false, List.drop_zero, List.drop_succ_cons, List.take_zero, List.take_succ_cons, List.take_nil, List.drop_nil, true_and, and_true, decide_true, decide_false, Nat.reduceMul, Nat.zero_mul, Nat.one_mul, Nat.mul_one, gn3, on_store]
  generalize hX3 : pts H3.nx (.cells [.int .i64 (x.by_ - 1), .bool x.dn, .bool x.sk] Ty.specs_Once .fix) = X3 at h8
  have gX3 : ∀ {H' : AH} {G : SL}, sat H' (X3 * G) → H'.get H3.nx = some (.cells [.int .i64 (x.by_ - 1), .bool x.dn, .bool x.sk] Ty.specs_Once .fix) := fun h => by rw [← hX3] at h; exact (sat_get h).1
  generalize hB3 : (H3.new (.cells [.int .i64 0, .bool false, .bool false] Ty.specs_Once .fix)).put H3.nx (.cells [.int .i64 (x.by_ - 1), .bool x.dn, .bool x.sk] Ty.specs_Once .fix) = B3 at h8 ⊢
  have h9 : sat B3 (PP * (RefL r s L2 * (StA p s * (toldA v (srt y.rd) * (X1 * (sliceA true w (srt y.rd) * (X2 * (X3 * F)))))))) := sat_of_eq h8 (by ac_rfl)
  simp only [RS, List.cons_append, List.nil_append, Option.isNone_some, Option.isNone_none, Option.isSome_some, Option.isSome_none, Nat.zero_add, Nat.add_zero, Nat.reduceAdd, List.getElem?_cons_zero, List.getElem?_cons_succ, List.length_cons, List.length_nil, List.all_cons, List.all_nil, Bool.and_self, Bool.and_true, Bool.true_and, Option.bind_some, Nat.reduceLeDiff, Nat.reduceEqDiff, Nat.le_refl, and_self, if_true, if_false, List.drop_zero, List.drop_succ_cons, List.take_zero, List.take_succ_cons, List.take_nil, List.drop_nil, true_and, and_true, decide_true, decide_false, Nat.reduceMul, Nat.zero_mul, Nat.one_mul, Nat.mul_one, gP h9]
  refine ROnce_ok ha (sat_of_eq h9 (by ac_rfl : _ = RefL r s L2 * (PP * (StA p s * (toldA v (srt y.rd) * (X1 * (sliceA true w (srt y.rd) * (X2 * (X3 * F)))))))) ) fun H4 L4 h10 => ?_
  simp only [hx] at h10 ⊢
  have h11 := sat_put (.cells [.int .i64 (x.by_ - 1), .bool x.dn, .bool x.sk] Ty.laybyref37_Once .fix) (sat_new (.cells [.int .i64 0, .bool false, .bool false] Ty.laybyref37_Once .fix) h10)
  have gn4 : (H4.new (.cells [.int .i64 0, .bool false, .bool false] Ty.laybyref37_Once .fix)).get H4.nx = some (.cells [.int .i64 0, .bool false, .bool false] Ty.laybyref37_Once .fix) := by rw [AH.get_new, if_pos rfl]
  simp only [RS, List.cons_append, List.nil_append, Option.isNone_some, Option.isNone_none, Option.isSome_some, Option.isSome_none, Nat.zero_add, Nat.add_zero, Nat.reduceAdd, List.getElem?_cons_zero, List.getElem?_cons_succ, List.length_cons, List.length_nil, List.all_cons, List.all_nil, Bool.and_self, Bool.and_true, Bool.true_and, Option.bind_some, Nat.reduceLeDiff, Nat.reduceEqDiff, Nat.le_refl, and_self, if_true, if_false, List.drop_zero, List.drop_succ_cons, List.take_zero, List.take_succ_cons, List.take_nil, List.drop_nil, true_and, and_true, decide_true, decide_false, Nat.reduceMul, Nat.zero_mul, Nat.one_mul, Nat.mul_one, gn4, on_store]
  generalize hX4 : pts H4.nx (.cells [.int .i64 (x.by_ - 1), .bool x.dn, .bool x.sk] Ty.laybyref37_Once .fix) = X4 at h11
  have gX4 : ∀ {H' : AH} {G : SL}, sat H' (X4 * G) → H'.get H4.nx = some (.cells [.int .i64 (x.by_ - 1), .bool x.dn, .bool x.sk] Ty.laybyref37_Once .fix) := fun h => by rw [← hX4] at h; exact (sat_get h).1
  generalize hB4 : (H4.new (.cells [.int .i64 0, .bool false, .bool false] Ty.laybyref37_Once .fix)).put H4.nx (.cells [.int .i64 (x.by_ - 1), .bool x.dn, .bool x.sk] Ty.laybyref37_Once .fix) = B4 at h11 ⊢
  have h12 : sat B4 (PP * (StA p s * (RefL r s L4 * (toldA v (srt y.rd) * (X1 * (sliceA true w (srt y.rd) * (X2 * (X3 * (X4 * F))))))))) := sat_of_eq h11 (by ac_rfl)
  simp only [RS, List.cons_append, List.nil_append, Option.isNone_some, Option.isNone_none, Option.isSome_some, Option.isSome_none, Nat.zero_add, Nat.add_zero, Nat.reduceAdd, List.getElem?_cons_zero, List.getElem?_cons_succ, List.length_cons, List.length_nil, List.all_cons, List.all_nil, Bool.and_self, Bool.and_true, Bool.true_and, Option.bind_some, Nat.reduceLeDiff, Nat.reduceEqDiff, Nat.le_refl, and_self, if_true, if_false, List.drop_zero, List.drop_succ_cons, List.take_zero, List.take_succ_cons, List.take_nil, List.drop_nil, true_and, and_true, decide_true, decide_false, Nat.reduceMul, Nat.zero_mul, Nat.one_mul, Nat.mul_one, gP h12]
  refine Mutex_ok ho (sat_of_eq h12 (by ac_rfl : _ = StA p s * (PP * (RefL r s L4 * (toldA v (srt y.rd) * (X1 * (sliceA true w (srt y.rd) * (X2 * (X3 * (X4 * F)))))))))) ?_
  simp only [RS, List.cons_append, List.nil_append, Option.isNone_some, Option.isNone_none, Option.isSome_some, Option.isSome_none, Nat.zero_add, Nat.add_zero, Nat.reduceAdd, List.getElem?_cons_zero, List.getElem?_cons_succ, List.length_cons, List.length_nil, List.all_cons, List.all_nil, Bool.and_self, Bool.and_true, Bool.true_and, Option.bind_some, Nat.reduceLeDiff, Nat.reduceEqDiff, Nat.le_refl, and_self, if_true, if_false, List.drop_zero, List.drop_succ_cons, List.take_zero, List.take_succ_cons, List.take_nil, List.drop_nil, true_and, and_true, decide_true, decide_false, Nat.reduceMul, Nat.zero_mul, Nat.one_mul, Nat.mul_one, gP h12, same_refl]
  refine RMutex_ok ha (sat_of_eq h12 (by ac_rfl : _ = RefL r s L4 * (PP * (StA p s * (toldA v (srt y.rd) * (X1 * (sliceA true w (srt y.rd) * (X2 * (X3 * (X4 * F)))))))))) fun H5 L5 h13 => ?_
  have ei : ∀ z : Int, (z == z) = true := fun z => by simp
  have eb : ∀ z : Bool, (z == z) = true := fun z => by simp
  have k1 := gX1 (sat_of_eq h13 (by ac_rfl : _ = X1 * (RefL r s L5 * (PP * (StA p s * (toldA v (srt y.rd) * (sliceA true w (srt y.rd) * (X2 * (X3 * (X4 * F))))))))))
  have k2 := gX2 (sat_of_eq h13 (by ac_rfl : _ = X2 * (RefL r s L5 * (PP * (StA p s * (toldA v (srt y.rd) * (sliceA true w (srt y.rd) * (X1 * (X3 * (X4 * F))))))))))
  have k3 := gX3 (sat_of_eq h13 (by ac_rfl : _ = X3 * (RefL r s L5 * (PP * (StA p s * (toldA v (srt y.rd) * (sliceA true w (srt y.rd) * (X1 * (X2 * (X4 * F))))))))))
  have k4 := gX4 (sat_of_eq h13 (by ac_rfl : _ = X4 * (RefL r s L5 * (PP * (StA p s * (toldA v (srt y.rd) * (sliceA true w (srt y.rd) * (X1 * (X2 * (X3 * F))))))))))
  have kT : sat H5 (toldA v (srt y.rd) * (RefL r s L5 * (PP * (StA p s * (sliceA true w (srt y.rd) * (X1 * (X2 * (X3 * (X4 * F))))))))) := sat_of_eq h13 (by ac_rfl)
  have kS : sat H5 (sliceA true w (srt y.rd) * (RefL r s L5 * (PP * (StA p s * (toldA v (srt y.rd) * (X1 * (X2 * (X3 * (X4 * F))))))))) := sat_of_eq h13 (by ac_rfl)
  have h14 : sat H5 (PP * (StA p s * (RefL r s L5 * F))) := sat_sub (A := toldA v (srt y.rd) * (X1 * (sliceA true w (srt y.rd) * (X2 * (X3 * X4))))) (sat_of_eq h13 (by ac_rfl))
  simp only [gdD, RS, List.cons_append, List.nil_append, Option.isNone_some, Option.isNone_none, Option.isSome_some, Option.isSome_none, Nat.zero_add, Nat.add_zero, Nat.reduceAdd, List.getElem?_cons_zero, List.getElem?_cons_succ, List.length_cons, List.length_nil, List.all_cons, List.all_nil, Bool.and_self, Bool.and_true, Bool.true_and, Option.bind_some, Nat.reduceLeDiff, Nat.reduceEqDiff, Nat.le_refl, and_self, if_true, if_false, List.drop_zero, List.drop_succ_cons, List.take_zero, List.take_succ_cons, List.take_nil, List.drop_nil, true_and, and_true, decide_true, decide_false, Nat.reduceMul, Nat.zero_mul, Nat.one_mul, Nat.mul_one, ei, k1, k2]
  refine sameInts_ok (told_row kT) (slice_row kS) (told_cap kT) (by omega) ?_
  simp only [gdD, RS, List.cons_append, List.nil_append, Option.isNone_some, Option.isNone_none, Option.isSome_some, Option.isSome_none, Nat.zero_add, Nat.add_zero, Nat.reduceAdd, List.getElem?_cons_zero, List.getElem?_cons_succ, List.length_cons, List.length_nil, List.all_cons, List.all_nil, Bool.and_self, Bool.and_true, Bool.true_and, Option.bind_some, Nat.reduceLeDiff, Nat.reduceEqDiff, Nat.le_refl, and_self, if_true, if_false, List.drop_zero, List.drop_succ_cons, List.take_zero, List.take_succ_cons, List.take_nil, List.drop_nil, true_and, and_true, decide_true, decide_false, Nat.reduceMul, Nat.zero_mul, Nat.one_mul, Nat.mul_one, ei, eb, k1, k2, k3, k4, gP h14]
  refine Queue_ok ho (sat_of_eq h14 (by ac_rfl : _ = StA p s * (PP * (RefL r s L5 * F)))) fun v2 H6 h15 => ?_
  have h16 : sat H6 (PP * (RefL r s L5 * (StA p s * (toldA v2 (s.q a) * F)))) := sat_of_eq h15 (by ac_rfl)
  simp only [RS, List.cons_append, List.nil_append, Option.isNone_some, Option.isNone_none, Option.isSome_some, Option.isSome_none, Nat.zero_add, Nat.add_zero, Nat.reduceAdd, List.getElem?_cons_zero, List.getElem?_cons_succ, List.length_cons, List.length_nil, List.all_cons, List.all_nil, Bool.and_self, Bool.and_true, Bool.true_and, Option.bind_some, Nat.reduceLeDiff, Nat.reduceEqDiff, Nat.le_refl, and_self, if_true, if_false, List.drop_zero, List.drop_succ_cons, List.take_zero, List.take_succ_cons, List.take_nil, List.drop_nil, true_and, and_true, decide_true, decide_false, Nat.reduceMul, Nat.zero_mul, Nat.one_mul, Nat.mul_one, gP h16, same_refl]
  refine RQueue_ok ho ha (sat_of_eq h16 (by ac_rfl : _ = RefL r s L5 * (PP * (StA p s * (toldA v2 (s.q a) * F))))) fun w2 H7 L7 h17 => ?_
  have kT2 : sat H7 (toldA v2 (s.q a) * (sliceA true w2 (s.q a) * (RefL r s L7 * (PP * (StA p s * F))))) := sat_of_eq h17 (by ac_rfl)
  refine sameInts_ok (told_row kT2) (slice_row (sat_sub kT2)) (told_cap kT2) (by have := ho.qlen a; omega) ?_
  exact hK _ L7 (sat_sub (A := toldA v2 (s.q a) * (sliceA true w2 (s.q a) * PP)) (sat_of_eq kT2 (by ac_rfl)))
theorem PSaw_ok (ho : s.ok) (hn : n.kind < 256) (ha : 0 ≤ n.addr ∧ n.addr < 4294967296) (hto : 0 ≤ n.to ∧ n.to < 4294967296) (hs : sat H (StA p s * (RefL r s L * (NM * F)))) (hK : ∀ H' L', sat H' (StA p (sawS s n).2 * (RefL r (sawS s n).2 L' * (NM * F))) → K (.bool true) H') : DS Tryz.prog Fi.laybylaw37_Pair_Saw [pairV p r, n.val] H K := by
  refine use_laybylaw37_Pair_Saw 0 ?_
  unfold sh_laybylaw37_Pair_Saw
  have h0 := sat_new (.cells n.row Ty.notes_Note .fix) (sat_new (.cells [ptr p, ptr r] Ty.laybylaw37_Pair .fix) hs)
  simp only [AH.nx_new] at h0
  generalize hP : pts H.nx (.cells [ptr p, ptr r] Ty.laybylaw37_Pair .fix) = PP at h0
  generalize hQ : pts (H.nx + 1) (.cells n.row Ty.notes_Note .fix) = PQ at h0
  have gP : ∀ {H' : AH} {G : SL}, sat H' (PP * G) → H'.get H.nx = some (.cells [ptr p, ptr r] Ty.laybylaw37_Pair .fix) := fun h => by rw [← hP] at h; exact (sat_get h).1
  have gQ : ∀ {H' : AH} {G : SL}, sat H' (PQ * G) → H'.get (H.nx + 1) = some (.cells n.row Ty.notes_Note .fix) := fun h => by rw [← hQ] at h; exact (sat_get h).1
  simp only [RS, List.cons_append, List.nil_append, Option.isNone_some, Option.isNone_none, Option.isSome_some, Option.isSome_none, Nat.zero_add, Nat.add_zero, Nat.reduceAdd, List.getElem?_cons_zero, List.getElem?_cons_succ, List.length_cons, List.length_nil, List.all_cons, List.all_nil, Bool.and_self, Bool.and_true, Bool.true_and, Option.bind_some, Nat.reduceLeDiff, Nat.reduceEqDiff, Nat.le_refl, and_self, if_true, if_false, List.drop_zero, List.drop_succ_cons, List.take_zero, List.take_succ_cons, List.take_nil, List.drop_nil, true_and, and_true, decide_true, decide_false, Nat.reduceMul, Nat.zero_mul, Nat.one_mul, Nat.mul_one, gP (sat_sub h0), gQ h0]
  refine Saw_ok ho hn (sat_of_eq h0 (by ac_rfl : _ = StA p s * (NM * (PP * (PQ * (RefL r s L * F)))))) fun H1 h1 => ?_
  have h2 : sat H1 (PP * (PQ * (StA p (sawS s n).2 * (NM * (RefL r s L * F))))) := sat_of_eq h1 (by ac_rfl)
  have hfl : IntKind.i64.wrap (sawS s n).1 = (sawS s n).1 := by
    refine w64n ?_
    unfold sawS
    have hf := fltS_fit n.kind s n
    cases (valid n.kind && thr n.thread && (!n.oth || thr n.other)) with
    | false => simp only [cond_false]; exact ⟨by decide, by decide⟩
    | true =>
      cases (s.seen && decide (n.step < s.step)) with
      | true => simp only [cond_true]; exact ⟨by decide, by decide⟩
      | false =>
        simp only [cond_true, cond_false]
        rcases hf with e | e | e <;> rw [e] <;> exact ⟨by decide, by decide⟩
  simp only [RS, List.cons_append, List.nil_append, Option.isNone_some, Option.isNone_none, Option.isSome_some, Option.isSome_none, Nat.zero_add, Nat.add_zero, Nat.reduceAdd, List.getElem?_cons_zero, List.getElem?_cons_succ, List.length_cons, List.length_nil, List.all_cons, List.all_nil, Bool.and_self, Bool.and_true, Bool.true_and, Option.bind_some, Nat.reduceLeDiff, Nat.reduceEqDiff, Nat.le_refl, and_self, if_true, if_false, List.drop_zero, List.drop_succ_cons, List.take_zero, List.take_succ_cons, List.take_nil, List.drop_nil, true_and, and_true, decide_true, decide_false, Nat.reduceMul, Nat.zero_mul, Nat.one_mul, Nat.mul_one, gP h2, gQ (sat_sub h2), same_refl, hfl]
  refine Other_ok hn h2 fun H2 h3 => ?_
  simp only [RS, List.cons_append, List.nil_append, Option.isNone_some, Option.isNone_none, Option.isSome_some, Option.isSome_none, Nat.zero_add, Nat.add_zero, Nat.reduceAdd, List.getElem?_cons_zero, List.getElem?_cons_succ, List.length_cons, List.length_nil, List.all_cons, List.all_nil, Bool.and_self, Bool.and_true, Bool.true_and, Option.bind_some, Nat.reduceLeDiff, Nat.reduceEqDiff, Nat.le_refl, and_self, if_true, if_false, List.drop_zero, List.drop_succ_cons, List.take_zero, List.take_succ_cons, List.take_nil, List.drop_nil, true_and, and_true, decide_true, decide_false, Nat.reduceMul, Nat.zero_mul, Nat.one_mul, Nat.mul_one, gP h3, same_refl]
  refine RSaw_ok ho hn ha hto (sat_of_eq h3 (by ac_rfl : _ = RefL r s L * (PP * (PQ * (StA p (sawS s n).2 * (NM * F)))))) fun H3 L3 h4 => ?_
  have ei : ((sawS s n).1 == (sawS s n).1) = true := by simp
  simp only [RS, List.cons_append, List.nil_append, Option.isNone_some, Option.isNone_none, Option.isSome_some, Option.isSome_none, Nat.zero_add, Nat.add_zero, Nat.reduceAdd, List.getElem?_cons_zero, List.getElem?_cons_succ, List.length_cons, List.length_nil, List.all_cons, List.all_nil, Bool.and_self, Bool.and_true, Bool.true_and, Option.bind_some, Nat.reduceLeDiff, Nat.reduceEqDiff, Nat.le_refl, and_self, if_true, if_false, List.drop_zero, List.drop_succ_cons, List.take_zero, List.take_succ_cons, List.take_nil, List.drop_nil, true_and, and_true, decide_true, decide_false, Nat.reduceMul, Nat.zero_mul, Nat.one_mul, Nat.mul_one, ei]
  exact hK _ L3 (sat_sub (A := PP * PQ) (sat_of_eq h4 (by ac_rfl)))
end
end Go.Proofs.YtiolnpeniklhiaaGreatDoor
