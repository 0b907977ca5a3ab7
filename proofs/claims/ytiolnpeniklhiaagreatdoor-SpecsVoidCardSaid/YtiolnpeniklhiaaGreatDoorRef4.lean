/- The document's answer: locks.
   Conditions: what stands in memory, as each states it. -/
import Derived.Test.YtiolnpeniklhiaaGreatDoorRef3
namespace Go.Proofs.YtiolnpeniklhiaaGreatDoor
open Go Go.Ab
set_option linter.all false
set_option maxRecDepth 100000
section
variable {H : AH} {F : SL} {K : KV} {s : SS} {r : Nat} {L : PL} {n : NV}
theorem lock_then {k : Nat} (hks : k = 21 ∨ k = 22 ∨ k = 23 ∨ k = 24 ∨ k = 25 ∨ k = 26 ∨ k = 27 ∨ k = 28) : thenS k s n = { s with lk := upd s.lk n.addr (lthen k (s.lk n.addr) n.thread) } ∧ mayB k s n = lmay k (s.lk n.addr) n.thread ∧ fltS k s n = bif mayB k s n then 0 else 3 := by
  rcases hks with rfl | rfl | rfl | rfl | rfl | rfl | rfl | rfl <;> exact ⟨rfl, rfl, rfl⟩
theorem rlock_ok {k : Nat} (ho : s.ok) (hn : n.ok) (ha : 0 ≤ n.addr ∧ n.addr < 4294967296) (hk : n.kind = k) (hks : k = 21 ∨ k = 22 ∨ k = 23 ∨ k = 24 ∨ k = 25 ∨ k = 26 ∨ k = 27 ∨ k = 28) (hs : sat H (RefL r s L * F))
    (hK : ∀ H' L', sat H' (RefL r (deedS k s n) L' * F) → K (.int .i64 (fltS k s n)) H') : DS Tryz.prog Fi.laybyref37_State_lock [ptr r, n.rval] H K := by
  obtain ⟨hth, hma, hflt⟩ := lock_then (s := s) (n := n) hks
  rw [hflt, deed_bif hflt] at hK
  refine use_laybyref37_State_lock 0 ?_
  unfold sh_laybyref37_State_lock
  obtain ⟨h1, g1⟩ := rnote_new (n := n) hs
  simp only [RS, List.cons_append, List.nil_append, Option.isNone_some, Option.isNone_none, Option.isSome_some, Option.isSome_none, Nat.zero_add, Nat.add_zero, Nat.reduceAdd, List.getElem?_cons_zero, List.getElem?_cons_succ, List.length_cons, List.length_nil, List.all_cons, List.all_nil, Bool.and_self, Bool.and_true, Bool.true_and, Option.bind_some, Nat.reduceLeDiff, Nat.reduceEqDiff, Nat.le_refl, and_self, if_true, if_false, List.drop_zero, List.drop_succ_cons, List.take_zero, List.take_succ_cons, List.take_nil, List.drop_nil, true_and, and_true, decide_true, decide_false, Nat.reduceMul, Nat.zero_mul, Nat.one_mul, Nat.mul_one, g1]
  refine at_ok ha h1 fun m H1 L' hm _ h2 => ?_
  have gn := (sat_get (sat_sub h2)).1
  have h3 := ref_open hm h2
  obtain ⟨vq, vr, h4⟩ := sat_plA.1 h3
  have gp := (sat_get h4).1
  have hlk := ho.lk n.addr
  have hrl : (s.lk n.addr).rd.length ≤ 64 := few 64 _ hlk.nd hlk.rg
  have rowr : RowI H1 vr (s.lk n.addr).rd := slice_row (sat_sub (sat_sub h4))
  have cq := slice_cell (sat_sub h4)
  have cr := slice_cell (sat_sub (sat_sub h4))
  simp only [prOf] at gp
  simp only [RS, List.cons_append, List.nil_append, Option.isNone_some, Option.isNone_none, Option.isSome_some, Option.isSome_none, Nat.zero_add, Nat.add_zero, Nat.reduceAdd, List.getElem?_cons_zero, List.getElem?_cons_succ, List.length_cons, List.length_nil, List.all_cons, List.all_nil, Bool.and_self, Bool.and_true, Bool.true_and, Option.bind_some, Nat.reduceLeDiff, Nat.reduceEqDiff, Nat.le_refl, and_self, if_true, if_false, List.drop_zero, List.drop_succ_cons, List.take_zero, List.take_succ_cons, List.take_nil, List.drop_nil, true_and, and_true, decide_true, decide_false, Nat.reduceMul, Nat.zero_mul, Nat.one_mul, Nat.mul_one, gn, gp]
  refine rhas_ok rowr (by omega) ?_
  generalize hy : s.lk n.addr = y at *
  have hpl : ([.int .u32 n.addr, vq, .int .i64 (s.ow n.addr - 1), vr, .int .i64 (y.up - 1), .int .i64 (y.cl - 1), .bool y.wr, .int .i64 ((s.on n.addr).by_ - 1), .bool (s.on n.addr).dn, .bool (s.on n.addr).sk] : List Value).all plain = true := by
    simp only [List.all_cons, cq.2, cr.2, plain_int, plain_bool, List.all_nil, Bool.and_self]
  have es : ∀ H2, stO 10 H1.nx 0 (.agg ⟨[.int .u32 n.addr, vq, .int .i64 (s.ow n.addr - 1), vr, .int .i64 (y.up - 1), .int .i64 (y.cl - 1), .bool y.wr, .int .i64 ((s.on n.addr).by_ - 1), .bool (s.on n.addr).dn, .bool (s.on n.addr).sk]⟩) H2
      (some (.cells [.int .u32 0, .slice none 0 0, .int .i64 0, .slice none 0 0, .int .i64 0, .int .i64 0, .bool false, .int .i64 0, .bool false, .bool false] Ty.laybyref37_place .fix)) =
      some (.tuple ⟨[]⟩, H2.put H1.nx (.cells [.int .u32 n.addr, vq, .int .i64 (s.ow n.addr - 1), vr, .int .i64 (y.up - 1), .int .i64 (y.cl - 1), .bool y.wr, .int .i64 ((s.on n.addr).by_ - 1), .bool (s.on n.addr).dn, .bool (s.on n.addr).sk] Ty.laybyref37_place .fix)) := fun H2 =>
    (stO_N 10 _ _ _ _ _ _ _ rfl rfl hpl (by simp)).trans (by simp [splice])
  have ec : cellsO 10 0 (some (.cells [.int .u32 n.addr, vq, .int .i64 (s.ow n.addr - 1), vr, .int .i64 (y.up - 1), .int .i64 (y.cl - 1), .bool y.wr, .int .i64 ((s.on n.addr).by_ - 1), .bool (s.on n.addr).dn, .bool (s.on n.addr).sk] Ty.laybyref37_place .fix)) =
      some (.agg ⟨[.int .u32 n.addr, vq, .int .i64 (s.ow n.addr - 1), vr, .int .i64 (y.up - 1), .int .i64 (y.cl - 1), .bool y.wr, .int .i64 ((s.on n.addr).by_ - 1), .bool (s.on n.addr).dn, .bool (s.on n.addr).sk]⟩) := rfl
  have h5 := sat_put (.cells [.int .u32 n.addr, vq, .int .i64 (s.ow n.addr - 1), vr, .int .i64 (y.up - 1), .int .i64 (y.cl - 1), .bool y.wr, .int .i64 ((s.on n.addr).by_ - 1), .bool (s.on n.addr).dn, .bool (s.on n.addr).sk] Ty.laybyref37_place .fix) (sat_new (.cells [.int .u32 0, .slice none 0 0, .int .i64 0, .slice none 0 0, .int .i64 0, .int .i64 0, .bool false, .int .i64 0, .bool false, .bool false] Ty.laybyref37_place .fix) h4)
  have gn0 : (H1.new (.cells [.int .u32 0, .slice none 0 0, .int .i64 0, .slice none 0 0, .int .i64 0, .int .i64 0, .bool false, .int .i64 0, .bool false, .bool false] Ty.laybyref37_place .fix)).get H1.nx = some (.cells [.int .u32 0, .slice none 0 0, .int .i64 0, .slice none 0 0, .int .i64 0, .int .i64 0, .bool false, .int .i64 0, .bool false, .bool false] Ty.laybyref37_place .fix) := by rw [AH.get_new, if_pos rfl]
  have go := (sat_get h5).1
  have gp5 := (sat_get (sat_sub h5)).1
  have gn5 := (sat_get (sat_sub (sat_sub (sat_sub (sat_sub (sat_sub h5)))))).1
  simp only [bn_some, bn2_some, fa_ptr, pnil_ptr, ld1_ptr, ldN_ptr, stT_ptr, ptrTo_eq, bnA_some, RS, List.cons_append, List.nil_append, Option.isNone_some, Option.isNone_none, Option.isSome_some, Option.isSome_none, Nat.zero_add, Nat.add_zero, Nat.reduceAdd, List.getElem?_cons_zero, List.getElem?_cons_succ, List.length_cons, List.length_nil, List.all_cons, List.all_nil, Bool.and_self, Bool.and_true, Bool.true_and, Option.bind_some, Nat.reduceLeDiff, Nat.reduceEqDiff, Nat.le_refl, and_self, if_true, if_false, List.drop_zero, List.drop_succ_cons, List.take_zero, List.take_succ_cons, List.take_nil, List.drop_nil, true_and, and_true, decide_true, decide_false, Nat.reduceMul, Nat.zero_mul, Nat.one_mul, Nat.mul_one, gp, ec, gn0, es]
  generalize hB : (H1.new (.cells [.int .u32 0, .slice none 0 0, .int .i64 0, .slice none 0 0, .int .i64 0, .int .i64 0, .bool false, .int .i64 0, .bool false, .bool false] Ty.laybyref37_place .fix)).put H1.nx (.cells [.int .u32 n.addr, vq, .int .i64 (s.ow n.addr - 1), vr, .int .i64 (y.up - 1), .int .i64 (y.cl - 1), .bool y.wr, .int .i64 ((s.on n.addr).by_ - 1), .bool (s.on n.addr).dn, .bool (s.on n.addr).sk] Ty.laybyref37_place .fix) = B at h5 go gp5 gn5 ⊢
  have ex : prOf s n.addr = ⟨s.q n.addr, s.ow n.addr - 1, y.rd, y.up - 1, y.cl - 1, y.wr, (s.on n.addr).by_ - 1, (s.on n.addr).dn, (s.on n.addr).sk⟩ := by simp only [prOf, hy]
  rw [ex] at h5 gp5
  generalize hG : (RefX r s L' n.addr * (pts H.nx (.cells n.rrow Ty.laybyref11_Note .fix) * F)) = G at h5
  refine jn_rule (fun t H' => ∃ (x : LkS) (vr' : Value) (S : SL), t = (ptr m, .bool (mayB k s n), ptr H1.nx, ()) ∧ (mayB k s n = true → lthen k y n.thread = x) ∧ (cellsL vr' = [vr'] ∧ plain vr' = true) ∧ ((vr' = vr ∧ x.rd = y.rd ∧ S = emp) ∨ S = sliceA true vr' x.rd) ∧
    sat H' (pts H1.nx (.cells [.int .u32 n.addr, vq, .int .i64 (s.ow n.addr - 1), vr', .int .i64 (x.up - 1), .int .i64 (x.cl - 1), .bool x.wr, .int .i64 ((s.on n.addr).by_ - 1), .bool (s.on n.addr).dn, .bool (s.on n.addr).sk] Ty.laybyref37_place .fix) *
      (pts m (.cells [.int .u32 n.addr, vq, .int .i64 (s.ow n.addr - 1), vr, .int .i64 (y.up - 1), .int .i64 (y.cl - 1), .bool y.wr, .int .i64 ((s.on n.addr).by_ - 1), .bool (s.on n.addr).dn, .bool (s.on n.addr).sk] Ty.laybyref37_place .fix) * (sliceA true vq (s.q n.addr) * (sliceA true vr y.rd * (S * G)))))) ?_ ?_
  · rintro t H' ⟨x, vr', S, rfl, hx, cr', hS, h6⟩
    have g6 := (sat_get h6).1
    have gp6 := (sat_get (sat_sub h6)).1
    refine jn_of ?_
    simp only [RS, List.cons_append, List.nil_append, Option.isNone_some, Option.isNone_none, Option.isSome_some, Option.isSome_none, Nat.zero_add, Nat.add_zero, Nat.reduceAdd, List.getElem?_cons_zero, List.getElem?_cons_succ, List.length_cons, List.length_nil, List.all_cons, List.all_nil, Bool.and_self, Bool.and_true, Bool.true_and, Option.bind_some, Nat.reduceLeDiff, Nat.reduceEqDiff, Nat.le_refl, and_self, if_true, if_false, List.drop_zero, List.drop_succ_cons, List.take_zero, List.take_succ_cons, List.take_nil, List.drop_nil, true_and, and_true, decide_true, decide_false, Nat.reduceMul, Nat.zero_mul, Nat.one_mul, Nat.mul_one]
    have back : sat H' (RefL r s L' * F) := by
      have h7 : sat H' (pts m (.cells ((prOf s n.addr).row n.addr vq vr) Ty.laybyref37_place .fix) * (sliceA true vq (prOf s n.addr).q * (sliceA true vr (prOf s n.addr).rd * G))) := by
        rw [ex]
        exact sat_sub (A := S) (sat_of_eq (sat_sub h6) (by ac_rfl))
      rw [← hG] at h7
      exact rnote_drop (n := n) (ref_close hm (sat_plA.2 ⟨vq, vr, h7⟩) rfl (fun b hb => rfl) rfl rfl rfl)
    cases hmay : mayB k s n with
    | true =>
      rw [hmay] at hK
      have hpl2 : ([.int .u32 n.addr, vq, .int .i64 (s.ow n.addr - 1), vr', .int .i64 (x.up - 1), .int .i64 (x.cl - 1), .bool x.wr, .int .i64 ((s.on n.addr).by_ - 1), .bool (s.on n.addr).dn, .bool (s.on n.addr).sk] : List Value).all plain = true := by
        simp only [List.all_cons, cq.2, cr'.2, plain_int, plain_bool, List.all_nil, Bool.and_self]
      have es2 : stO 10 m 0 (.agg ⟨[.int .u32 n.addr, vq, .int .i64 (s.ow n.addr - 1), vr', .int .i64 (x.up - 1), .int .i64 (x.cl - 1), .bool x.wr, .int .i64 ((s.on n.addr).by_ - 1), .bool (s.on n.addr).dn, .bool (s.on n.addr).sk]⟩) H'
          (some (.cells [.int .u32 n.addr, vq, .int .i64 (s.ow n.addr - 1), vr, .int .i64 (y.up - 1), .int .i64 (y.cl - 1), .bool y.wr, .int .i64 ((s.on n.addr).by_ - 1), .bool (s.on n.addr).dn, .bool (s.on n.addr).sk] Ty.laybyref37_place .fix)) =
          some (.tuple ⟨[]⟩, H'.put m (.cells [.int .u32 n.addr, vq, .int .i64 (s.ow n.addr - 1), vr', .int .i64 (x.up - 1), .int .i64 (x.cl - 1), .bool x.wr, .int .i64 ((s.on n.addr).by_ - 1), .bool (s.on n.addr).dn, .bool (s.on n.addr).sk] Ty.laybyref37_place .fix)) :=
        (stO_N 10 _ _ _ _ _ _ _ rfl rfl hpl2 (by simp)).trans (by simp [splice])
      have ec2 : cellsO 10 0 (some (.cells [.int .u32 n.addr, vq, .int .i64 (s.ow n.addr - 1), vr', .int .i64 (x.up - 1), .int .i64 (x.cl - 1), .bool x.wr, .int .i64 ((s.on n.addr).by_ - 1), .bool (s.on n.addr).dn, .bool (s.on n.addr).sk] Ty.laybyref37_place .fix)) =
          some (.agg ⟨[.int .u32 n.addr, vq, .int .i64 (s.ow n.addr - 1), vr', .int .i64 (x.up - 1), .int .i64 (x.cl - 1), .bool x.wr, .int .i64 ((s.on n.addr).by_ - 1), .bool (s.on n.addr).dn, .bool (s.on n.addr).sk]⟩) := rfl
      simp only [cnd_true, bn_some, bn2_some, ldN_ptr, g6, ec2, pnil_ptr, stT_ptr, gp6, es2, RS, List.cons_append, List.nil_append, Option.isNone_some, Option.isNone_none, Option.isSome_some, Option.isSome_none, Nat.zero_add, Nat.add_zero, Nat.reduceAdd, List.getElem?_cons_zero, List.getElem?_cons_succ, List.length_cons, List.length_nil, List.all_cons, List.all_nil, Bool.and_self, Bool.and_true, Bool.true_and, Option.bind_some, Nat.reduceLeDiff, Nat.reduceEqDiff, Nat.le_refl, and_self, if_true, if_false, List.drop_zero, List.drop_succ_cons, List.take_zero, List.take_succ_cons, List.take_nil, List.drop_nil, true_and, and_true, decide_true, decide_false, Nat.reduceMul, Nat.zero_mul, Nat.one_mul, Nat.mul_one]
      refine fault_ok ?_
      have h7 := sat_put (.cells [.int .u32 n.addr, vq, .int .i64 (s.ow n.addr - 1), vr', .int .i64 (x.up - 1), .int .i64 (x.cl - 1), .bool x.wr, .int .i64 ((s.on n.addr).by_ - 1), .bool (s.on n.addr).dn, .bool (s.on n.addr).sk] Ty.laybyref37_place .fix) (sat_sub h6)
      have h8 : sat (H'.put m (.cells [.int .u32 n.addr, vq, .int .i64 (s.ow n.addr - 1), vr', .int .i64 (x.up - 1), .int .i64 (x.cl - 1), .bool x.wr, .int .i64 ((s.on n.addr).by_ - 1), .bool (s.on n.addr).dn, .bool (s.on n.addr).sk] Ty.laybyref37_place .fix))
          (pts m (.cells [.int .u32 n.addr, vq, .int .i64 (s.ow n.addr - 1), vr', .int .i64 (x.up - 1), .int .i64 (x.cl - 1), .bool x.wr, .int .i64 ((s.on n.addr).by_ - 1), .bool (s.on n.addr).dn, .bool (s.on n.addr).sk] Ty.laybyref37_place .fix) * (sliceA true vq (s.q n.addr) * (sliceA true vr' x.rd * G))) := by
        rcases hS with ⟨rfl, e2, rfl⟩ | rfl
        · rw [e2]
          exact sat_of_eq h7 (by rw [emp_sep])
        · exact sat_sub (A := sliceA true vr y.rd) (sat_of_eq h7 (by ac_rfl))
      have hts : thenS k s n = { s with lk := upd s.lk n.addr x } := by rw [hth, ← hx hmay]
      rw [hts] at hK
      rw [← hG] at h8
      refine hK _ L' (rnote_drop (n := n) (ref_close (x := ⟨s.q n.addr, s.ow n.addr - 1, x.rd, x.up - 1, x.cl - 1, x.wr, (s.on n.addr).by_ - 1, (s.on n.addr).dn, (s.on n.addr).sk⟩) hm (sat_plA.2 ⟨vq, vr', h8⟩) (prOf_lk.trans (if_pos rfl)) (fun b hb => prOf_lk.trans (if_neg hb)) rfl rfl rfl))
    | false =>
      rw [hmay] at hK
      simp only [RS, List.cons_append, List.nil_append, Option.isNone_some, Option.isNone_none, Option.isSome_some, Option.isSome_none, Nat.zero_add, Nat.add_zero, Nat.reduceAdd, List.getElem?_cons_zero, List.getElem?_cons_succ, List.length_cons, List.length_nil, List.all_cons, List.all_nil, Bool.and_self, Bool.and_true, Bool.true_and, Option.bind_some, Nat.reduceLeDiff, Nat.reduceEqDiff, Nat.le_refl, and_self, if_true, if_false, List.drop_zero, List.drop_succ_cons, List.take_zero, List.take_succ_cons, List.take_nil, List.drop_nil, true_and, and_true, decide_true, decide_false, Nat.reduceMul, Nat.zero_mul, Nat.one_mul, Nat.mul_one]
      refine fault_ok ?_
      exact hK _ L' back
  · intro R hR
    have h5' := sat_of_eq h5 (by rw [emp_sep] : _ = pts H1.nx (.cells [.int .u32 n.addr, vq, .int .i64 (s.ow n.addr - 1), vr, .int .i64 (y.up - 1), .int .i64 (y.cl - 1), .bool y.wr, .int .i64 ((s.on n.addr).by_ - 1), .bool (s.on n.addr).dn, .bool (s.on n.addr).sk] Ty.laybyref37_place .fix) *
      (pts m (.cells [.int .u32 n.addr, vq, .int .i64 (s.ow n.addr - 1), vr, .int .i64 (y.up - 1), .int .i64 (y.cl - 1), .bool y.wr, .int .i64 ((s.on n.addr).by_ - 1), .bool (s.on n.addr).dn, .bool (s.on n.addr).sk] Ty.laybyref37_place .fix) * (sliceA true vq (s.q n.addr) * (sliceA true vr y.rd * (emp * G)))))
    have base := fun {x : LkS} {b : Bool} {H' : AH} (hb : mayB k s n = b) (hx : lthen k y n.thread = x) (hr : x.rd = y.rd) (hH : H' = B.put H1.nx (.cells [.int .u32 n.addr, vq, .int .i64 (s.ow n.addr - 1), vr, .int .i64 (x.up - 1), .int .i64 (x.cl - 1), .bool x.wr, .int .i64 ((s.on n.addr).by_ - 1), .bool (s.on n.addr).dn, .bool (s.on n.addr).sk] Ty.laybyref37_place .fix)) =>
      hR (ptr m, .bool b, ptr H1.nx, ()) H' ⟨x, vr, emp, by rw [hb], fun _ => hx, cr, .inl ⟨rfl, hr, rfl⟩, by rw [hH]; exact sat_put _ h5'⟩
    have e1 : n.thread + 1 - 1 = n.thread := by omega
    have ht := hn.th
    simp only [RS, List.cons_append, List.nil_append, Option.isNone_some, Option.isNone_none, Option.isSome_some, Option.isSome_none, Nat.zero_add, Nat.add_zero, Nat.reduceAdd, List.getElem?_cons_zero, List.getElem?_cons_succ, List.length_cons, List.length_nil, List.all_cons, List.all_nil, Bool.and_self, Bool.and_true, Bool.true_and, Option.bind_some, Nat.reduceLeDiff, Nat.reduceEqDiff, Nat.le_refl, and_self, if_true, if_false, List.drop_zero, List.drop_succ_cons, List.take_zero, List.take_succ_cons, List.take_nil, List.drop_nil, true_and, and_true, decide_true, decide_false, Nat.reduceMul, Nat.zero_mul, Nat.one_mul, Nat.mul_one, gn5, hk]
    rcases hks with rfl | rfl | rfl | rfl | rfl | rfl | rfl | rfl
    · have b21 : ((((21 : Nat) : Int)) == 21) = true := rfl
      have fin : ∀ {b : Bool}, mayB 21 s n = b → DS Tryz.prog Fi.laybyref37_with [vr, .int .i64 n.thread] B fun v74 H75 => bn2 (stO 1 H1.nx 3 v74 H75 (H75.get H1.nx)) fun v77 H78 => R (ptr m, .bool b, ptr H1.nx, ()) H78 := fun {b} hb => by
        refine with_ok (sat_of_eq h5 (by ac_rfl : _ = sliceA true vr y.rd * (pts H1.nx (.cells [.int .u32 n.addr, vq, .int .i64 (s.ow n.addr - 1), vr, .int .i64 (y.up - 1), .int .i64 (y.cl - 1), .bool y.wr, .int .i64 ((s.on n.addr).by_ - 1), .bool (s.on n.addr).dn, .bool (s.on n.addr).sk] Ty.laybyref37_place .fix) * (pts m (.cells [.int .u32 n.addr, vq, .int .i64 (s.ow n.addr - 1), vr, .int .i64 (y.up - 1), .int .i64 (y.cl - 1), .bool y.wr, .int .i64 ((s.on n.addr).by_ - 1), .bool (s.on n.addr).dn, .bool (s.on n.addr).sk] Ty.laybyref37_place .fix) * (sliceA true vq (s.q n.addr) * G))))) (by omega) fun w H' h6 => ?_
        have cw := slice_cell h6
        have h7 := sat_of_eq (B := pts H1.nx (.cells [.int .u32 n.addr, vq, .int .i64 (s.ow n.addr - 1), vr, .int .i64 (y.up - 1), .int .i64 (y.cl - 1), .bool y.wr, .int .i64 ((s.on n.addr).by_ - 1), .bool (s.on n.addr).dn, .bool (s.on n.addr).sk] Ty.laybyref37_place .fix) * (pts m (.cells [.int .u32 n.addr, vq, .int .i64 (s.ow n.addr - 1), vr, .int .i64 (y.up - 1), .int .i64 (y.cl - 1), .bool y.wr, .int .i64 ((s.on n.addr).by_ - 1), .bool (s.on n.addr).dn, .bool (s.on n.addr).sk] Ty.laybyref37_place .fix) * (sliceA true vq (s.q n.addr) * (sliceA true vr y.rd * (sliceA true w (y.rd ++ [n.thread]) * G))))) h6 (by ac_rfl)
        have es3 : stO 1 H1.nx 3 w H' (some (.cells [.int .u32 n.addr, vq, .int .i64 (s.ow n.addr - 1), vr, .int .i64 (y.up - 1), .int .i64 (y.cl - 1), .bool y.wr, .int .i64 ((s.on n.addr).by_ - 1), .bool (s.on n.addr).dn, .bool (s.on n.addr).sk] Ty.laybyref37_place .fix)) =
            some (.tuple ⟨[]⟩, H'.put H1.nx (.cells [.int .u32 n.addr, vq, .int .i64 (s.ow n.addr - 1), w, .int .i64 (y.up - 1), .int .i64 (y.cl - 1), .bool y.wr, .int .i64 ((s.on n.addr).by_ - 1), .bool (s.on n.addr).dn, .bool (s.on n.addr).sk] Ty.laybyref37_place .fix)) := stO_1 _ _ _ _ _ _ _ rfl cw.1 cw.2 (by simp)
        simp only [(sat_get h7).1, es3, bn2_some]
        exact hR _ _ ⟨{ y with rd := y.rd ++ [n.thread] }, w, _, by rw [hb], fun _ => rfl, cw, .inr rfl, sat_put _ h7⟩
      simp only [RS, List.cons_append, List.nil_append, Option.isNone_some, Option.isNone_none, Option.isSome_some, Option.isSome_none, Nat.zero_add, Nat.add_zero, Nat.reduceAdd, List.getElem?_cons_zero, List.getElem?_cons_succ, List.length_cons, List.length_nil, List.all_cons, List.all_nil, Bool.and_self, Bool.and_true, Bool.true_and, Option.bind_some, Nat.reduceLeDiff, Nat.reduceEqDiff, Nat.le_refl, and_self, if_true, if_false, List.drop_zero, List.drop_succ_cons, List.take_zero, List.take_succ_cons, List.take_nil, List.drop_nil, true_and, and_true, decide_true, decide_false, Nat.reduceMul, Nat.zero_mul, Nat.one_mul, Nat.mul_one, b21, lt0 hlk.cl.1]
      cases c1 : (y.cl == 0) with
      | false =>
        simp only [RS, List.cons_append, List.nil_append, Option.isNone_some, Option.isNone_none, Option.isSome_some, Option.isSome_none, Nat.zero_add, Nat.add_zero, Nat.reduceAdd, List.getElem?_cons_zero, List.getElem?_cons_succ, List.length_cons, List.length_nil, List.all_cons, List.all_nil, Bool.and_self, Bool.and_true, Bool.true_and, Option.bind_some, Nat.reduceLeDiff, Nat.reduceEqDiff, Nat.le_refl, and_self, if_true, if_false, List.drop_zero, List.drop_succ_cons, List.take_zero, List.take_succ_cons, List.take_nil, List.drop_nil, true_and, and_true, decide_true, decide_false, Nat.reduceMul, Nat.zero_mul, Nat.one_mul, Nat.mul_one, gp5]
        exact fin (by rw [hma]; simp only [lmay, c1, Bool.false_and])
      | true =>
        simp only [RS, List.cons_append, List.nil_append, Option.isNone_some, Option.isNone_none, Option.isSome_some, Option.isSome_none, Nat.zero_add, Nat.add_zero, Nat.reduceAdd, List.getElem?_cons_zero, List.getElem?_cons_succ, List.length_cons, List.length_nil, List.all_cons, List.all_nil, Bool.and_self, Bool.and_true, Bool.true_and, Option.bind_some, Nat.reduceLeDiff, Nat.reduceEqDiff, Nat.le_refl, and_self, if_true, if_false, List.drop_zero, List.drop_succ_cons, List.take_zero, List.take_succ_cons, List.take_nil, List.drop_nil, true_and, and_true, decide_true, decide_false, Nat.reduceMul, Nat.zero_mul, Nat.one_mul, Nat.mul_one]
        cases c2 : decide (n.thread ∈ y.rd) with
        | true =>
          simp only [RS, List.cons_append, List.nil_append, Option.isNone_some, Option.isNone_none, Option.isSome_some, Option.isSome_none, Nat.zero_add, Nat.add_zero, Nat.reduceAdd, List.getElem?_cons_zero, List.getElem?_cons_succ, List.length_cons, List.length_nil, List.all_cons, List.all_nil, Bool.and_self, Bool.and_true, Bool.true_and, Option.bind_some, Nat.reduceLeDiff, Nat.reduceEqDiff, Nat.le_refl, and_self, if_true, if_false, List.drop_zero, List.drop_succ_cons, List.take_zero, List.take_succ_cons, List.take_nil, List.drop_nil, true_and, and_true, decide_true, decide_false, Nat.reduceMul, Nat.zero_mul, Nat.one_mul, Nat.mul_one, Bool.not_true, gp5]
          exact fin (by rw [hma]; simp only [lmay, LkS.reads, c1, c2, Bool.true_or, Bool.not_true, Bool.and_false])
        | false =>
          simp only [RS, List.cons_append, List.nil_append, Option.isNone_some, Option.isNone_none, Option.isSome_some, Option.isSome_none, Nat.zero_add, Nat.add_zero, Nat.reduceAdd, List.getElem?_cons_zero, List.getElem?_cons_succ, List.length_cons, List.length_nil, List.all_cons, List.all_nil, Bool.and_self, Bool.and_true, Bool.true_and, Option.bind_some, Nat.reduceLeDiff, Nat.reduceEqDiff, Nat.le_refl, and_self, if_true, if_false, List.drop_zero, List.drop_succ_cons, List.take_zero, List.take_succ_cons, List.take_nil, List.drop_nil, true_and, and_true, decide_true, decide_false, Nat.reduceMul, Nat.zero_mul, Nat.one_mul, Nat.mul_one, Bool.not_false, gp5, nem]
          exact fin (by rw [hma]; simp only [lmay, LkS.reads, c1, c2, Bool.false_or, Bool.true_and])
    · have b21 : ((((22 : Nat) : Int)) == 21) = false := rfl
      have b22 : ((((22 : Nat) : Int)) == 22) = true := rfl
      have fin : ∀ {b : Bool}, mayB 22 s n = b → R (ptr m, .bool b, ptr H1.nx, ()) (B.put H1.nx (.cells [.int .u32 n.addr, vq, .int .i64 (s.ow n.addr - 1), vr, .int .i64 n.thread, .int .i64 (y.cl - 1), .bool y.wr, .int .i64 ((s.on n.addr).by_ - 1), .bool (s.on n.addr).dn, .bool (s.on n.addr).sk] Ty.laybyref37_place .fix)) := fun hb =>
        base (x := { y with up := n.thread + 1 }) hb rfl rfl (by rw [e1])
      simp only [RS, List.cons_append, List.nil_append, Option.isNone_some, Option.isNone_none, Option.isSome_some, Option.isSome_none, Nat.zero_add, Nat.add_zero, Nat.reduceAdd, List.getElem?_cons_zero, List.getElem?_cons_succ, List.length_cons, List.length_nil, List.all_cons, List.all_nil, Bool.and_self, Bool.and_true, Bool.true_and, Option.bind_some, Nat.reduceLeDiff, Nat.reduceEqDiff, Nat.le_refl, and_self, if_true, if_false, List.drop_zero, List.drop_succ_cons, List.take_zero, List.take_succ_cons, List.take_nil, List.drop_nil, true_and, and_true, decide_true, decide_false, Nat.reduceMul, Nat.zero_mul, Nat.one_mul, Nat.mul_one, b21, b22, lt0 hlk.cl.1]
      cases c1 : (y.cl == 0) with
      | false =>
        simp only [RS, List.cons_append, List.nil_append, Option.isNone_some, Option.isNone_none, Option.isSome_some, Option.isSome_none, Nat.zero_add, Nat.add_zero, Nat.reduceAdd, List.getElem?_cons_zero, List.getElem?_cons_succ, List.length_cons, List.length_nil, List.all_cons, List.all_nil, Bool.and_self, Bool.and_true, Bool.true_and, Option.bind_some, Nat.reduceLeDiff, Nat.reduceEqDiff, Nat.le_refl, and_self, if_true, if_false, List.drop_zero, List.drop_succ_cons, List.take_zero, List.take_succ_cons, List.take_nil, List.drop_nil, true_and, and_true, decide_true, decide_false, Nat.reduceMul, Nat.zero_mul, Nat.one_mul, Nat.mul_one, go]
        exact fin (by rw [hma]; simp only [lmay, c1, Bool.false_and])
      | true =>
        simp only [RS, List.cons_append, List.nil_append, Option.isNone_some, Option.isNone_none, Option.isSome_some, Option.isSome_none, Nat.zero_add, Nat.add_zero, Nat.reduceAdd, List.getElem?_cons_zero, List.getElem?_cons_succ, List.length_cons, List.length_nil, List.all_cons, List.all_nil, Bool.and_self, Bool.and_true, Bool.true_and, Option.bind_some, Nat.reduceLeDiff, Nat.reduceEqDiff, Nat.le_refl, and_self, if_true, if_false, List.drop_zero, List.drop_succ_cons, List.take_zero, List.take_succ_cons, List.take_nil, List.drop_nil, true_and, and_true, decide_true, decide_false, Nat.reduceMul, Nat.zero_mul, Nat.one_mul, Nat.mul_one, gp5, lt0 hlk.up.1]
        cases c2 : (y.up == 0) with
        | false =>
          simp only [RS, List.cons_append, List.nil_append, Option.isNone_some, Option.isNone_none, Option.isSome_some, Option.isSome_none, Nat.zero_add, Nat.add_zero, Nat.reduceAdd, List.getElem?_cons_zero, List.getElem?_cons_succ, List.length_cons, List.length_nil, List.all_cons, List.all_nil, Bool.and_self, Bool.and_true, Bool.true_and, Option.bind_some, Nat.reduceLeDiff, Nat.reduceEqDiff, Nat.le_refl, and_self, if_true, if_false, List.drop_zero, List.drop_succ_cons, List.take_zero, List.take_succ_cons, List.take_nil, List.drop_nil, true_and, and_true, decide_true, decide_false, Nat.reduceMul, Nat.zero_mul, Nat.one_mul, Nat.mul_one, go]
          exact fin (by rw [hma]; simp only [lmay, c1, c2, Bool.and_false, Bool.false_and])
        | true =>
          have c3 : (y.up == n.thread + 1) = false := by
            rw [beq_iff_eq] at c2
            rw [beq_eq_false_iff_ne]; omega
          simp only [RS, List.cons_append, List.nil_append, Option.isNone_some, Option.isNone_none, Option.isSome_some, Option.isSome_none, Nat.zero_add, Nat.add_zero, Nat.reduceAdd, List.getElem?_cons_zero, List.getElem?_cons_succ, List.length_cons, List.length_nil, List.all_cons, List.all_nil, Bool.and_self, Bool.and_true, Bool.true_and, Option.bind_some, Nat.reduceLeDiff, Nat.reduceEqDiff, Nat.le_refl, and_self, if_true, if_false, List.drop_zero, List.drop_succ_cons, List.take_zero, List.take_succ_cons, List.take_nil, List.drop_nil, true_and, and_true, decide_true, decide_false, Nat.reduceMul, Nat.zero_mul, Nat.one_mul, Nat.mul_one, go]
          exact fin (by rw [hma]; simp only [lmay, LkS.reads, c1, c2, c3, Bool.or_false, Bool.true_and])
    · have b21 : ((((23 : Nat) : Int)) == 21) = false := rfl
      have b22 : ((((23 : Nat) : Int)) == 22) = false := rfl
      have b23 : ((((23 : Nat) : Int)) == 23) = true := rfl
      have fin : ∀ {b : Bool}, mayB 23 s n = b → R (ptr m, .bool b, ptr H1.nx, ()) (B.put H1.nx (.cells [.int .u32 n.addr, vq, .int .i64 (s.ow n.addr - 1), vr, .int .i64 (y.up - 1), .int .i64 n.thread, .bool y.wr, .int .i64 ((s.on n.addr).by_ - 1), .bool (s.on n.addr).dn, .bool (s.on n.addr).sk] Ty.laybyref37_place .fix)) := fun hb =>
        base (x := { y with cl := n.thread + 1 }) hb rfl rfl (by rw [e1])
      simp only [RS, List.cons_append, List.nil_append, Option.isNone_some, Option.isNone_none, Option.isSome_some, Option.isSome_none, Nat.zero_add, Nat.add_zero, Nat.reduceAdd, List.getElem?_cons_zero, List.getElem?_cons_succ, List.length_cons, List.length_nil, List.all_cons, List.all_nil, Bool.and_self, Bool.and_true, Bool.true_and, Option.bind_some, Nat.reduceLeDiff, Nat.reduceEqDiff, Nat.le_refl, and_self, if_true, if_false, List.drop_zero, List.drop_succ_cons, List.take_zero, List.take_succ_cons, List.take_nil, List.drop_nil, true_and, and_true, decide_true, decide_false, Nat.reduceMul, Nat.zero_mul, Nat.one_mul, Nat.mul_one, b21, b22, b23, lt0 hlk.cl.1]
      cases c1 : (y.cl == 0) with
      | false =>
        simp only [RS, List.cons_append, List.nil_append, Option.isNone_some, Option.isNone_none, Option.isSome_some, Option.isSome_none, Nat.zero_add, Nat.add_zero, Nat.reduceAdd, List.getElem?_cons_zero, List.getElem?_cons_succ, List.length_cons, List.length_nil, List.all_cons, List.all_nil, Bool.and_self, Bool.and_true, Bool.true_and, Option.bind_some, Nat.reduceLeDiff, Nat.reduceEqDiff, Nat.le_refl, and_self, if_true, if_false, List.drop_zero, List.drop_succ_cons, List.take_zero, List.take_succ_cons, List.take_nil, List.drop_nil, true_and, and_true, decide_true, decide_false, Nat.reduceMul, Nat.zero_mul, Nat.one_mul, Nat.mul_one, go]
        exact fin (by rw [hma]; simp only [lmay, c1, Bool.false_and])
      | true =>
        simp only [RS, List.cons_append, List.nil_append, Option.isNone_some, Option.isNone_none, Option.isSome_some, Option.isSome_none, Nat.zero_add, Nat.add_zero, Nat.reduceAdd, List.getElem?_cons_zero, List.getElem?_cons_succ, List.length_cons, List.length_nil, List.all_cons, List.all_nil, Bool.and_self, Bool.and_true, Bool.true_and, Option.bind_some, Nat.reduceLeDiff, Nat.reduceEqDiff, Nat.le_refl, and_self, if_true, if_false, List.drop_zero, List.drop_succ_cons, List.take_zero, List.take_succ_cons, List.take_nil, List.drop_nil, true_and, and_true, decide_true, decide_false, Nat.reduceMul, Nat.zero_mul, Nat.one_mul, Nat.mul_one, gp5, lt0 hlk.up.1, go]
        exact fin (by rw [hma]; simp only [lmay, c1, Bool.true_and])
    · have b21 : ((((24 : Nat) : Int)) == 21) = false := rfl
      have b22 : ((((24 : Nat) : Int)) == 22) = false := rfl
      have b23 : ((((24 : Nat) : Int)) == 23) = false := rfl
      have b24 : ((((24 : Nat) : Int)) == 24) = true := rfl
      have hlen : ∀ t, lenT (.slice t) vr B = some (.int .i64 (y.rd.length : Int)) := (slice_row (sat_sub (sat_sub (sat_sub h5)))).len
      have fin : ∀ {b : Bool}, mayB 24 s n = b → R (ptr m, .bool b, ptr H1.nx, ()) (B.put H1.nx (.cells [.int .u32 n.addr, vq, .int .i64 (s.ow n.addr - 1), vr, .int .i64 (y.up - 1), .int .i64 (y.cl - 1), .bool true, .int .i64 ((s.on n.addr).by_ - 1), .bool (s.on n.addr).dn, .bool (s.on n.addr).sk] Ty.laybyref37_place .fix)) := fun hb =>
        base (x := { y with wr := true }) hb rfl rfl rfl
      simp only [RS, List.cons_append, List.nil_append, Option.isNone_some, Option.isNone_none, Option.isSome_some, Option.isSome_none, Nat.zero_add, Nat.add_zero, Nat.reduceAdd, List.getElem?_cons_zero, List.getElem?_cons_succ, List.length_cons, List.length_nil, List.all_cons, List.all_nil, Bool.and_self, Bool.and_true, Bool.true_and, Option.bind_some, Nat.reduceLeDiff, Nat.reduceEqDiff, Nat.le_refl, and_self, if_true, if_false, List.drop_zero, List.drop_succ_cons, List.take_zero, List.take_succ_cons, List.take_nil, List.drop_nil, true_and, and_true, decide_true, decide_false, Nat.reduceMul, Nat.zero_mul, Nat.one_mul, Nat.mul_one, b21, b22, b23, b24, gp5, eqm]
      cases c1 : (y.cl == n.thread + 1) with
      | false =>
        simp only [RS, List.cons_append, List.nil_append, Option.isNone_some, Option.isNone_none, Option.isSome_some, Option.isSome_none, Nat.zero_add, Nat.add_zero, Nat.reduceAdd, List.getElem?_cons_zero, List.getElem?_cons_succ, List.length_cons, List.length_nil, List.all_cons, List.all_nil, Bool.and_self, Bool.and_true, Bool.true_and, Option.bind_some, Nat.reduceLeDiff, Nat.reduceEqDiff, Nat.le_refl, and_self, if_true, if_false, List.drop_zero, List.drop_succ_cons, List.take_zero, List.take_succ_cons, List.take_nil, List.drop_nil, true_and, and_true, decide_true, decide_false, Nat.reduceMul, Nat.zero_mul, Nat.one_mul, Nat.mul_one, go]
        exact fin (by rw [hma]; simp only [lmay, c1, Bool.false_and])
      | true =>
        simp only [RS, List.cons_append, List.nil_append, Option.isNone_some, Option.isNone_none, Option.isSome_some, Option.isSome_none, Nat.zero_add, Nat.add_zero, Nat.reduceAdd, List.getElem?_cons_zero, List.getElem?_cons_succ, List.length_cons, List.length_nil, List.all_cons, List.all_nil, Bool.and_self, Bool.and_true, Bool.true_and, Option.bind_some, Nat.reduceLeDiff, Nat.reduceEqDiff, Nat.le_refl, and_self, if_true, if_false, List.drop_zero, List.drop_succ_cons, List.take_zero, List.take_succ_cons, List.take_nil, List.drop_nil, true_and, and_true, decide_true, decide_false, Nat.reduceMul, Nat.zero_mul, Nat.one_mul, Nat.mul_one, gp5]
        cases c2 : y.wr with
        | true =>
          simp only [RS, List.cons_append, List.nil_append, Option.isNone_some, Option.isNone_none, Option.isSome_some, Option.isSome_none, Nat.zero_add, Nat.add_zero, Nat.reduceAdd, List.getElem?_cons_zero, List.getElem?_cons_succ, List.length_cons, List.length_nil, List.all_cons, List.all_nil, Bool.and_self, Bool.and_true, Bool.true_and, Option.bind_some, Nat.reduceLeDiff, Nat.reduceEqDiff, Nat.le_refl, and_self, if_true, if_false, List.drop_zero, List.drop_succ_cons, List.take_zero, List.take_succ_cons, List.take_nil, List.drop_nil, true_and, and_true, decide_true, decide_false, Nat.reduceMul, Nat.zero_mul, Nat.one_mul, Nat.mul_one, Bool.not_true, go]
          exact fin (by rw [hma]; simp only [lmay, c1, c2, Bool.not_true, Bool.and_false, Bool.false_and])
        | false =>
          simp only [c2] at gp5
          simp only [RS, List.cons_append, List.nil_append, Option.isNone_some, Option.isNone_none, Option.isSome_some, Option.isSome_none, Nat.zero_add, Nat.add_zero, Nat.reduceAdd, List.getElem?_cons_zero, List.getElem?_cons_succ, List.length_cons, List.length_nil, List.all_cons, List.all_nil, Bool.and_self, Bool.and_true, Bool.true_and, Option.bind_some, Nat.reduceLeDiff, Nat.reduceEqDiff, Nat.le_refl, and_self, if_true, if_false, List.drop_zero, List.drop_succ_cons, List.take_zero, List.take_succ_cons, List.take_nil, List.drop_nil, true_and, and_true, decide_true, decide_false, Nat.reduceMul, Nat.zero_mul, Nat.one_mul, Nat.mul_one, Bool.not_false, gp5, hlen, leneq]
          cases c3 : decide (y.rd = []) with
          | false =>
            simp only [RS, List.cons_append, List.nil_append, Option.isNone_some, Option.isNone_none, Option.isSome_some, Option.isSome_none, Nat.zero_add, Nat.add_zero, Nat.reduceAdd, List.getElem?_cons_zero, List.getElem?_cons_succ, List.length_cons, List.length_nil, List.all_cons, List.all_nil, Bool.and_self, Bool.and_true, Bool.true_and, Option.bind_some, Nat.reduceLeDiff, Nat.reduceEqDiff, Nat.le_refl, and_self, if_true, if_false, List.drop_zero, List.drop_succ_cons, List.take_zero, List.take_succ_cons, List.take_nil, List.drop_nil, true_and, and_true, decide_true, decide_false, Nat.reduceMul, Nat.zero_mul, Nat.one_mul, Nat.mul_one, go]
            exact fin (by rw [hma]; simp only [lmay, c1, c2, c3, Bool.not_false, Bool.and_false, Bool.false_and])
          | true =>
            simp only [RS, List.cons_append, List.nil_append, Option.isNone_some, Option.isNone_none, Option.isSome_some, Option.isSome_none, Nat.zero_add, Nat.add_zero, Nat.reduceAdd, List.getElem?_cons_zero, List.getElem?_cons_succ, List.length_cons, List.length_nil, List.all_cons, List.all_nil, Bool.and_self, Bool.and_true, Bool.true_and, Option.bind_some, Nat.reduceLeDiff, Nat.reduceEqDiff, Nat.le_refl, and_self, if_true, if_false, List.drop_zero, List.drop_succ_cons, List.take_zero, List.take_succ_cons, List.take_nil, List.drop_nil, true_and, and_true, decide_true, decide_false, Nat.reduceMul, Nat.zero_mul, Nat.one_mul, Nat.mul_one, gp5, lt0 hlk.up.1, go]
            exact fin (by rw [hma]; simp only [lmay, c1, c2, c3, Bool.not_false, Bool.true_and])
    · have b21 : ((((25 : Nat) : Int)) == 21) = false := rfl
      have b22 : ((((25 : Nat) : Int)) == 22) = false := rfl
      have b23 : ((((25 : Nat) : Int)) == 23) = false := rfl
      have b24 : ((((25 : Nat) : Int)) == 24) = false := rfl
      have b25 : ((((25 : Nat) : Int)) == 25) = true := rfl
      simp only [RS, List.cons_append, List.nil_append, Option.isNone_some, Option.isNone_none, Option.isSome_some, Option.isSome_none, Nat.zero_add, Nat.add_zero, Nat.reduceAdd, List.getElem?_cons_zero, List.getElem?_cons_succ, List.length_cons, List.length_nil, List.all_cons, List.all_nil, Bool.and_self, Bool.and_true, Bool.true_and, Option.bind_some, Nat.reduceLeDiff, Nat.reduceEqDiff, Nat.le_refl, and_self, if_true, if_false, List.drop_zero, List.drop_succ_cons, List.take_zero, List.take_succ_cons, List.take_nil, List.drop_nil, true_and, and_true, decide_true, decide_false, Nat.reduceMul, Nat.zero_mul, Nat.one_mul, Nat.mul_one, b21, b22, b23, b24, b25, gp5]
      refine without_ok (sat_of_eq h5 (by ac_rfl : _ = sliceA true vr y.rd * (pts H1.nx (.cells [.int .u32 n.addr, vq, .int .i64 (s.ow n.addr - 1), vr, .int .i64 (y.up - 1), .int .i64 (y.cl - 1), .bool y.wr, .int .i64 ((s.on n.addr).by_ - 1), .bool (s.on n.addr).dn, .bool (s.on n.addr).sk] Ty.laybyref37_place .fix) * (pts m (.cells [.int .u32 n.addr, vq, .int .i64 (s.ow n.addr - 1), vr, .int .i64 (y.up - 1), .int .i64 (y.cl - 1), .bool y.wr, .int .i64 ((s.on n.addr).by_ - 1), .bool (s.on n.addr).dn, .bool (s.on n.addr).sk] Ty.laybyref37_place .fix) * (sliceA true vq (s.q n.addr) * G))))) (by omega) fun w H' h6 => ?_
      have cw := slice_cell h6
      have h7 := sat_of_eq (B := pts H1.nx (.cells [.int .u32 n.addr, vq, .int .i64 (s.ow n.addr - 1), vr, .int .i64 (y.up - 1), .int .i64 (y.cl - 1), .bool y.wr, .int .i64 ((s.on n.addr).by_ - 1), .bool (s.on n.addr).dn, .bool (s.on n.addr).sk] Ty.laybyref37_place .fix) * (pts m (.cells [.int .u32 n.addr, vq, .int .i64 (s.ow n.addr - 1), vr, .int .i64 (y.up - 1), .int .i64 (y.cl - 1), .bool y.wr, .int .i64 ((s.on n.addr).by_ - 1), .bool (s.on n.addr).dn, .bool (s.on n.addr).sk] Ty.laybyref37_place .fix) * (sliceA true vq (s.q n.addr) * (sliceA true vr y.rd * (sliceA true w (wo n.thread y.rd) * G))))) h6 (by ac_rfl)
      have es3 : stO 1 H1.nx 3 w H' (some (.cells [.int .u32 n.addr, vq, .int .i64 (s.ow n.addr - 1), vr, .int .i64 (y.up - 1), .int .i64 (y.cl - 1), .bool y.wr, .int .i64 ((s.on n.addr).by_ - 1), .bool (s.on n.addr).dn, .bool (s.on n.addr).sk] Ty.laybyref37_place .fix)) =
          some (.tuple ⟨[]⟩, H'.put H1.nx (.cells [.int .u32 n.addr, vq, .int .i64 (s.ow n.addr - 1), w, .int .i64 (y.up - 1), .int .i64 (y.cl - 1), .bool y.wr, .int .i64 ((s.on n.addr).by_ - 1), .bool (s.on n.addr).dn, .bool (s.on n.addr).sk] Ty.laybyref37_place .fix)) := stO_1 _ _ _ _ _ _ _ rfl cw.1 cw.2 (by simp)
      simp only [RS, List.cons_append, List.nil_append, Option.isNone_some, Option.isNone_none, Option.isSome_some, Option.isSome_none, Nat.zero_add, Nat.add_zero, Nat.reduceAdd, List.getElem?_cons_zero, List.getElem?_cons_succ, List.length_cons, List.length_nil, List.all_cons, List.all_nil, Bool.and_self, Bool.and_true, Bool.true_and, Option.bind_some, Nat.reduceLeDiff, Nat.reduceEqDiff, Nat.le_refl, and_self, if_true, if_false, List.drop_zero, List.drop_succ_cons, List.take_zero, List.take_succ_cons, List.take_nil, List.drop_nil, true_and, and_true, decide_true, decide_false, Nat.reduceMul, Nat.zero_mul, Nat.one_mul, Nat.mul_one, (sat_get h7).1, es3, bn2_some]
      exact hR _ _ ⟨{ y with rd := wo n.thread y.rd }, w, _, by rw [hma]; rfl, fun _ => rfl, cw, .inr rfl, sat_put _ h7⟩
    · have b21 : ((((26 : Nat) : Int)) == 21) = false := rfl
      have b22 : ((((26 : Nat) : Int)) == 22) = false := rfl
      have b23 : ((((26 : Nat) : Int)) == 23) = false := rfl
      have b24 : ((((26 : Nat) : Int)) == 24) = false := rfl
      have b25 : ((((26 : Nat) : Int)) == 25) = false := rfl
      have b26 : ((((26 : Nat) : Int)) == 26) = true := rfl
      simp only [RS, List.cons_append, List.nil_append, Option.isNone_some, Option.isNone_none, Option.isSome_some, Option.isSome_none, Nat.zero_add, Nat.add_zero, Nat.reduceAdd, List.getElem?_cons_zero, List.getElem?_cons_succ, List.length_cons, List.length_nil, List.all_cons, List.all_nil, Bool.and_self, Bool.and_true, Bool.true_and, Option.bind_some, Nat.reduceLeDiff, Nat.reduceEqDiff, Nat.le_refl, and_self, if_true, if_false, List.drop_zero, List.drop_succ_cons, List.take_zero, List.take_succ_cons, List.take_nil, List.drop_nil, true_and, and_true, decide_true, decide_false, Nat.reduceMul, Nat.zero_mul, Nat.one_mul, Nat.mul_one, b21, b22, b23, b24, b25, b26, gp5, eqm, go]
      exact base (x := { y with up := 0 }) hma rfl rfl rfl
    · have b21 : ((((27 : Nat) : Int)) == 21) = false := rfl
      have b22 : ((((27 : Nat) : Int)) == 22) = false := rfl
      have b23 : ((((27 : Nat) : Int)) == 23) = false := rfl
      have b24 : ((((27 : Nat) : Int)) == 24) = false := rfl
      have b25 : ((((27 : Nat) : Int)) == 25) = false := rfl
      have b26 : ((((27 : Nat) : Int)) == 26) = false := rfl
      have b27 : ((((27 : Nat) : Int)) == 27) = true := rfl
      have fin : ∀ {b : Bool}, mayB 27 s n = b → R (ptr m, .bool b, ptr H1.nx, ()) (B.put H1.nx (.cells [.int .u32 n.addr, vq, .int .i64 (s.ow n.addr - 1), vr, .int .i64 (y.up - 1), .int .i64 (-1), .bool y.wr, .int .i64 ((s.on n.addr).by_ - 1), .bool (s.on n.addr).dn, .bool (s.on n.addr).sk] Ty.laybyref37_place .fix)) := fun hb =>
        base (x := { y with cl := 0 }) hb rfl rfl rfl
      simp only [RS, List.cons_append, List.nil_append, Option.isNone_some, Option.isNone_none, Option.isSome_some, Option.isSome_none, Nat.zero_add, Nat.add_zero, Nat.reduceAdd, List.getElem?_cons_zero, List.getElem?_cons_succ, List.length_cons, List.length_nil, List.all_cons, List.all_nil, Bool.and_self, Bool.and_true, Bool.true_and, Option.bind_some, Nat.reduceLeDiff, Nat.reduceEqDiff, Nat.le_refl, and_self, if_true, if_false, List.drop_zero, List.drop_succ_cons, List.take_zero, List.take_succ_cons, List.take_nil, List.drop_nil, true_and, and_true, decide_true, decide_false, Nat.reduceMul, Nat.zero_mul, Nat.one_mul, Nat.mul_one, b21, b22, b23, b24, b25, b26, b27, gp5, eqm]
      cases c1 : (y.cl == n.thread + 1) with
      | false =>
        simp only [RS, List.cons_append, List.nil_append, Option.isNone_some, Option.isNone_none, Option.isSome_some, Option.isSome_none, Nat.zero_add, Nat.add_zero, Nat.reduceAdd, List.getElem?_cons_zero, List.getElem?_cons_succ, List.length_cons, List.length_nil, List.all_cons, List.all_nil, Bool.and_self, Bool.and_true, Bool.true_and, Option.bind_some, Nat.reduceLeDiff, Nat.reduceEqDiff, Nat.le_refl, and_self, if_true, if_false, List.drop_zero, List.drop_succ_cons, List.take_zero, List.take_succ_cons, List.take_nil, List.drop_nil, true_and, and_true, decide_true, decide_false, Nat.reduceMul, Nat.zero_mul, Nat.one_mul, Nat.mul_one, go]
        exact fin (by rw [hma]; simp only [lmay, c1, Bool.false_and])
      | true =>
        simp only [RS, List.cons_append, List.nil_append, Option.isNone_some, Option.isNone_none, Option.isSome_some, Option.isSome_none, Nat.zero_add, Nat.add_zero, Nat.reduceAdd, List.getElem?_cons_zero, List.getElem?_cons_succ, List.length_cons, List.length_nil, List.all_cons, List.all_nil, Bool.and_self, Bool.and_true, Bool.true_and, Option.bind_some, Nat.reduceLeDiff, Nat.reduceEqDiff, Nat.le_refl, and_self, if_true, if_false, List.drop_zero, List.drop_succ_cons, List.take_zero, List.take_succ_cons, List.take_nil, List.drop_nil, true_and, and_true, decide_true, decide_false, Nat.reduceMul, Nat.zero_mul, Nat.one_mul, Nat.mul_one, gp5, go]
        exact fin (by rw [hma]; simp only [lmay, c1, Bool.true_and])
    · have b21 : ((((28 : Nat) : Int)) == 21) = false := rfl
      have b22 : ((((28 : Nat) : Int)) == 22) = false := rfl
      have b23 : ((((28 : Nat) : Int)) == 23) = false := rfl
      have b24 : ((((28 : Nat) : Int)) == 24) = false := rfl
      have b25 : ((((28 : Nat) : Int)) == 25) = false := rfl
      have b26 : ((((28 : Nat) : Int)) == 26) = false := rfl
      have b27 : ((((28 : Nat) : Int)) == 27) = false := rfl
      have fin : ∀ {b : Bool}, mayB 28 s n = b → R (ptr m, .bool b, ptr H1.nx, ()) ((B.put H1.nx (.cells [.int .u32 n.addr, vq, .int .i64 (s.ow n.addr - 1), vr, .int .i64 (y.up - 1), .int .i64 (-1), .bool y.wr, .int .i64 ((s.on n.addr).by_ - 1), .bool (s.on n.addr).dn, .bool (s.on n.addr).sk] Ty.laybyref37_place .fix)).put H1.nx (.cells [.int .u32 n.addr, vq, .int .i64 (s.ow n.addr - 1), vr, .int .i64 (y.up - 1), .int .i64 (-1), .bool false, .int .i64 ((s.on n.addr).by_ - 1), .bool (s.on n.addr).dn, .bool (s.on n.addr).sk] Ty.laybyref37_place .fix)) := fun hb =>
        hR _ _ ⟨{ y with cl := 0, wr := false }, vr, emp, by rw [hb], fun _ => rfl, cr, .inl ⟨rfl, rfl, rfl⟩, sat_put _ (sat_put _ h5')⟩
      simp only [RS, List.cons_append, List.nil_append, Option.isNone_some, Option.isNone_none, Option.isSome_some, Option.isSome_none, Nat.zero_add, Nat.add_zero, Nat.reduceAdd, List.getElem?_cons_zero, List.getElem?_cons_succ, List.length_cons, List.length_nil, List.all_cons, List.all_nil, Bool.and_self, Bool.and_true, Bool.true_and, Option.bind_some, Nat.reduceLeDiff, Nat.reduceEqDiff, Nat.le_refl, and_self, if_true, if_false, List.drop_zero, List.drop_succ_cons, List.take_zero, List.take_succ_cons, List.take_nil, List.drop_nil, true_and, and_true, decide_true, decide_false, Nat.reduceMul, Nat.zero_mul, Nat.one_mul, Nat.mul_one, b21, b22, b23, b24, b25, b26, b27, gp5, eqm]
      cases c1 : (y.cl == n.thread + 1) with
      | false =>
        simp only [RS, List.cons_append, List.nil_append, Option.isNone_some, Option.isNone_none, Option.isSome_some, Option.isSome_none, Nat.zero_add, Nat.add_zero, Nat.reduceAdd, List.getElem?_cons_zero, List.getElem?_cons_succ, List.length_cons, List.length_nil, List.all_cons, List.all_nil, Bool.and_self, Bool.and_true, Bool.true_and, Option.bind_some, Nat.reduceLeDiff, Nat.reduceEqDiff, Nat.le_refl, and_self, if_true, if_false, List.drop_zero, List.drop_succ_cons, List.take_zero, List.take_succ_cons, List.take_nil, List.drop_nil, true_and, and_true, decide_true, decide_false, Nat.reduceMul, Nat.zero_mul, Nat.one_mul, Nat.mul_one, go, get_put_eq]
        exact fin (by rw [hma]; simp only [lmay, c1, Bool.false_and])
      | true =>
        simp only [RS, List.cons_append, List.nil_append, Option.isNone_some, Option.isNone_none, Option.isSome_some, Option.isSome_none, Nat.zero_add, Nat.add_zero, Nat.reduceAdd, List.getElem?_cons_zero, List.getElem?_cons_succ, List.length_cons, List.length_nil, List.all_cons, List.all_nil, Bool.and_self, Bool.and_true, Bool.true_and, Option.bind_some, Nat.reduceLeDiff, Nat.reduceEqDiff, Nat.le_refl, and_self, if_true, if_false, List.drop_zero, List.drop_succ_cons, List.take_zero, List.take_succ_cons, List.take_nil, List.drop_nil, true_and, and_true, decide_true, decide_false, Nat.reduceMul, Nat.zero_mul, Nat.one_mul, Nat.mul_one, gp5, go, get_put_eq]
        exact fin (by rw [hma]; simp only [lmay, c1, Bool.true_and])
end
end Go.Proofs.YtiolnpeniklhiaaGreatDoor
