/- The statement on what goes back, in the abstract memory.
   Conditions: the arguments fit their kinds. -/
import Derived.Test.YtiolnpeniklhiaaCellsB
namespace Go.Proofs.Ytiolnpeniklhiaa
open Go Go.Ab
set_option linter.all false
set_option maxRecDepth 100000

theorem bv_of_nat {n : Nat} (h : n < 18446744073709551616) : (BitVec.ofInt 64 (n : Int)).toNat = n := by
  rw [BitVec.toNat_ofInt]; omega
theorem bv_toNat {x : Int} (h0 : 0 ≤ x) (h1 : x < 18446744073709551616) : ((BitVec.ofInt 64 x).toNat : Int) = x := by
  rw [BitVec.toNat_ofInt]; omega
theorem bv_ofToNat (b : BitVec 64) : BitVec.ofInt 64 (b.toNat : Int) = b := by
  apply BitVec.eq_of_toNat_eq
  exact bv_of_nat b.isLt
theorem mod256 (b : BitVec 64) : ((b.toNat : Int)) % 256 = ((b &&& 255#64).toNat : Int) := by
  rw [BitVec.toNat_and]
  have : (255#64).toNat = 2 ^ 8 - 1 := rfl
  rw [this, Nat.and_two_pow_sub_one_eq_mod]
  omega
def notI (d : Int) : Int := IntKind.u64.wrap ((BitVec.ofInt IntKind.u64.bits (if IntKind.u64.signed then -1 else IntKind.u64.max) ^^^ BitVec.ofInt IntKind.u64.bits d).toNat : Int)
theorem notI_eq (d : Int) : notI d = ((~~~ BitVec.ofInt 64 d).toNat : Int) := by
  unfold notI
  have e1 : (BitVec.ofInt IntKind.u64.bits (if IntKind.u64.signed then -1 else IntKind.u64.max)) = BitVec.allOnes 64 := by rfl
  rw [e1]
  have e2 : BitVec.allOnes 64 ^^^ BitVec.ofInt 64 d = ~~~ BitVec.ofInt 64 d := BitVec.allOnes_xor
  show IntKind.u64.wrap ((BitVec.allOnes 64 ^^^ BitVec.ofInt 64 d).toNat : Int) = _
  rw [e2]
  exact bits_wrap _
def andNotI (x d : Int) : Int := ((BitVec.ofInt 64 x &&& ~~~ BitVec.ofInt 64 d).toNat : Int)
theorem clears {a v d : Int} (h0 : 0 ≤ v) (h1 : v < 18446744073709551616) : byteOf a (andI (byteOf a (orI (byteOf a v) d)) (notI d)) = andNotI (byteOf a v) d := by
  rw [notI_eq]
  unfold byteOf andI orI andNotI
  by_cases hb : isByte a = true
  · simp only [hb, if_true]
    have hs : v % 256 = (((BitVec.ofInt 64 v) &&& 255#64).toNat : Int) := by rw [← mod256, bv_toNat h0 h1]
    rw [hs]
    generalize BitVec.ofInt 64 v = x
    generalize BitVec.ofInt 64 d = y
    simp only [bv_ofToNat, mod256]
    congr 1
    congr 1
    apply BitVec.eq_of_getLsbD_eq
    intro i hi
    simp only [BitVec.getLsbD_and, BitVec.getLsbD_or, BitVec.getLsbD_not, hi, decide_true, Bool.true_and]
    cases x.getLsbD i <;> cases y.getLsbD i <;> cases (255#64).getLsbD i <;> rfl
  · have hb' : isByte a = false := by simpa using hb
    simp only [hb', Bool.false_eq_true, if_false]
    generalize BitVec.ofInt 64 v = x
    generalize BitVec.ofInt 64 d = y
    simp only [bv_ofToNat]
    congr 1
    congr 1
    apply BitVec.eq_of_getLsbD_eq
    intro i hi
    simp only [BitVec.getLsbD_and, BitVec.getLsbD_or, BitVec.getLsbD_not, hi, decide_true, Bool.true_and]
    cases x.getLsbD i <;> cases y.getLsbD i <;> rfl
theorem acc_f (s : CS) (k a x : Int) : (s.acc k a x).f a = byteOf a x := by simp [CS.acc, upd]
theorem byteOf_idem (a x : Int) : byteOf a (byteOf a x) = byteOf a x := by unfold byteOf; split <;> omega
theorem addBack {a v d : Int} (h0 : 0 ≤ v) (h1 : v < 18446744073709551616) (h2 : 0 ≤ d) (h3 : d < 18446744073709551616) :
    byteOf a ((byteOf a ((byteOf a v + d) % 18446744073709551616) + (0 - d) % 18446744073709551616) % 18446744073709551616) = byteOf a v := by
  unfold byteOf; split <;> omega
theorem sat_emp (H : AH) : sat H emp := ⟨fun _ => none, fun _ => rfl, fun n o h => by cases h⟩
theorem bne_same (x : Int) : (x != x) = false := by simp
theorem beq_same (x : Int) : (x == x) = true := by simp
theorem CellsBack_ds {a v d : Int} (h0 : 0 ≤ a) (h1 : a < 4294967296) (h2 : 0 ≤ v) (h3 : v < 18446744073709551616) (h4 : 0 ≤ d) (h5 : d < 18446744073709551616) {H : AH} {K : KV} (hK : ∀ H', K (.bool true) H') :
    DS Try.prog Fi.laybylaw02_CellsBack [.int .u32 a, .int .u64 v, .int .u64 d] H K := by
  refine use_laybylaw02_CellsBack 0 ?_
  unfold sh_laybylaw02_CellsBack
  simp only [callV_fv, List.nil_append, List.append_nil]
  refine New0_ok (sat_emp H) fun c H1 hs1 => ?_
  refine Store_ok h0 h1 h2 h3 hs1 fun H2 hs2 => ?_
  refine jn_rule (fun t H' => H' = H2 ∧ t = (.int .u32 a, .int .u64 v, .int .u64 d, ptr c, .int .u64 (byteOf a v), ())) ?_ ?_
  · rintro t H' ⟨rfl, rfl⟩
    clear hs1
    generalize hS1 : CS0.acc 2 a v = s1 at hs2
    have f1 : s1.f a = byteOf a v := by rw [← hS1, acc_f]
    have hb := byteOf_in (a := a) h2 h3
    simp only [List.cons_append, List.nil_append, bn_some, bn2_some, bnA_some, cnd_true, cnd_false, gdD_tt, gdD_tf, gdD_ft, gdD_ff, gd_tt, gd_tf, gd_ft, gd_ff, pk_true, pk_false, pickS_true, pickS_false, callV_fv, same_refl, pnil_ptr, pnil_iface, pnil_fun, fa_ptr, fld1_agg, fldN_agg, extr_tuple, binT_eql_int, binT_neq_int, binT_lss_int, binT_leq_int, binT_gtr_int, binT_geq_int, binT_add_int, binT_sub_int, binT_mul_int, binT_and_int, binT_or_int, binT_andNot_int, binT_xor_int, binT_eql_bool, binT_neq_bool, binT_eql_ptr, binT_neq_ptr, binT_eql_map, binT_neq_map, binT_eql_slc, binT_neq_slc, binT_eql_agg, binT_neq_agg, unS_not, unS_neg, unS_xor, convS_int, lenT_slice, lenT_string, minT_int, maxT_int, mapT_int, ptrTo_eq, rowTo_eq, mapTo_eq, put_res, AH.nx_put, AH.nx_new, AH.nx_res, ld1_ptr, ldN_ptr, stT_ptr, cellO_cells, lkT_some, muT_some, delT_some, lenT_map_some, lenT_map_none, lkT_none, lkT_none_ok, delT_none, Option.isNone_some, Option.isNone_none, Option.isSome_some, Option.isSome_none, Nat.zero_add, Nat.add_zero, Nat.reduceAdd, List.getElem?_cons_zero, List.getElem?_cons_succ, cellsL_int, cellsL_bool, cellsL_str, cellsL_ptr, cellsL_slice, cellsL_map, cellsL_nilFunc, cellsL_func, cellsL_nilIface, cellsL_iface, cellsL_agg, plain_int, plain_bool, plain_str, plain_ptr, plain_slice, plain_map, plain_nilFunc, plain_func, plain_nilIface, plain_iface, rw_fix, rw_opn, stO_cells, splice_zero, splice_nil, splice_succ, fillA_nil, fillA_cons, buildT_eq, aggO_some, boxT_eq, bslT_eq, rowO_some, cellsO_cells, List.length_cons, List.length_nil, List.all_cons, List.all_nil, Bool.and_self, Bool.and_true, Bool.true_and, Option.bind_some, Nat.reduceLeDiff, Nat.reduceEqDiff, Nat.le_refl, and_self, if_true, if_false, List.drop_zero, List.drop_succ_cons, List.take_zero, List.take_succ_cons, List.take_nil, List.drop_nil, true_and, and_true, decide_true, decide_false, Nat.reduceMul, Nat.zero_mul, Nat.one_mul, Nat.mul_one, w64]
    refine Add_ok h0 h1 hs2 fun H3 hs3 => ?_
    rw [f1] at hs3 ⊢
    generalize hS2 : s1.acc 5 a ((byteOf a v + d) % 18446744073709551616) = s2 at hs3
    have f2 : s2.f a = byteOf a ((byteOf a v + d) % 18446744073709551616) := by rw [← hS2, acc_f]
    refine Add_ok h0 h1 hs3 fun H4 hs4 => ?_
    rw [f2] at hs4
    generalize hS3 : s2.acc 5 a _ = s3 at hs4
    have f3 : s3.f a = byteOf a v := by rw [← hS3, acc_f]; exact addBack h2 h3 h4 h5
    simp only [bne_same, List.cons_append, List.nil_append, bn_some, bn2_some, bnA_some, cnd_true, cnd_false, gdD_tt, gdD_tf, gdD_ft, gdD_ff, gd_tt, gd_tf, gd_ft, gd_ff, pk_true, pk_false, pickS_true, pickS_false, callV_fv, same_refl, pnil_ptr, pnil_iface, pnil_fun, fa_ptr, fld1_agg, fldN_agg, extr_tuple, binT_eql_int, binT_neq_int, binT_lss_int, binT_leq_int, binT_gtr_int, binT_geq_int, binT_add_int, binT_sub_int, binT_mul_int, binT_and_int, binT_or_int, binT_andNot_int, binT_xor_int, binT_eql_bool, binT_neq_bool, binT_eql_ptr, binT_neq_ptr, binT_eql_map, binT_neq_map, binT_eql_slc, binT_neq_slc, binT_eql_agg, binT_neq_agg, unS_not, unS_neg, unS_xor, convS_int, lenT_slice, lenT_string, minT_int, maxT_int, mapT_int, ptrTo_eq, rowTo_eq, mapTo_eq, put_res, AH.nx_put, AH.nx_new, AH.nx_res, ld1_ptr, ldN_ptr, stT_ptr, cellO_cells, lkT_some, muT_some, delT_some, lenT_map_some, lenT_map_none, lkT_none, lkT_none_ok, delT_none, Option.isNone_some, Option.isNone_none, Option.isSome_some, Option.isSome_none, Nat.zero_add, Nat.add_zero, Nat.reduceAdd, List.getElem?_cons_zero, List.getElem?_cons_succ, cellsL_int, cellsL_bool, cellsL_str, cellsL_ptr, cellsL_slice, cellsL_map, cellsL_nilFunc, cellsL_func, cellsL_nilIface, cellsL_iface, cellsL_agg, plain_int, plain_bool, plain_str, plain_ptr, plain_slice, plain_map, plain_nilFunc, plain_func, plain_nilIface, plain_iface, rw_fix, rw_opn, stO_cells, splice_zero, splice_nil, splice_succ, fillA_nil, fillA_cons, buildT_eq, aggO_some, boxT_eq, bslT_eq, rowO_some, cellsO_cells, List.length_cons, List.length_nil, List.all_cons, List.all_nil, Bool.and_self, Bool.and_true, Bool.true_and, Option.bind_some, Nat.reduceLeDiff, Nat.reduceEqDiff, Nat.le_refl, and_self, if_true, if_false, List.drop_zero, List.drop_succ_cons, List.take_zero, List.take_succ_cons, List.take_nil, List.drop_nil, true_and, and_true, decide_true, decide_false, Nat.reduceMul, Nat.zero_mul, Nat.one_mul, Nat.mul_one]
    refine Peek_ok hs4 ?_
    rw [f3]
    simp only [bne_same, List.cons_append, List.nil_append, bn_some, bn2_some, bnA_some, cnd_true, cnd_false, gdD_tt, gdD_tf, gdD_ft, gdD_ff, gd_tt, gd_tf, gd_ft, gd_ff, pk_true, pk_false, pickS_true, pickS_false, callV_fv, same_refl, pnil_ptr, pnil_iface, pnil_fun, fa_ptr, fld1_agg, fldN_agg, extr_tuple, binT_eql_int, binT_neq_int, binT_lss_int, binT_leq_int, binT_gtr_int, binT_geq_int, binT_add_int, binT_sub_int, binT_mul_int, binT_and_int, binT_or_int, binT_andNot_int, binT_xor_int, binT_eql_bool, binT_neq_bool, binT_eql_ptr, binT_neq_ptr, binT_eql_map, binT_neq_map, binT_eql_slc, binT_neq_slc, binT_eql_agg, binT_neq_agg, unS_not, unS_neg, unS_xor, convS_int, lenT_slice, lenT_string, minT_int, maxT_int, mapT_int, ptrTo_eq, rowTo_eq, mapTo_eq, put_res, AH.nx_put, AH.nx_new, AH.nx_res, ld1_ptr, ldN_ptr, stT_ptr, cellO_cells, lkT_some, muT_some, delT_some, lenT_map_some, lenT_map_none, lkT_none, lkT_none_ok, delT_none, Option.isNone_some, Option.isNone_none, Option.isSome_some, Option.isSome_none, Nat.zero_add, Nat.add_zero, Nat.reduceAdd, List.getElem?_cons_zero, List.getElem?_cons_succ, cellsL_int, cellsL_bool, cellsL_str, cellsL_ptr, cellsL_slice, cellsL_map, cellsL_nilFunc, cellsL_func, cellsL_nilIface, cellsL_iface, cellsL_agg, plain_int, plain_bool, plain_str, plain_ptr, plain_slice, plain_map, plain_nilFunc, plain_func, plain_nilIface, plain_iface, rw_fix, rw_opn, stO_cells, splice_zero, splice_nil, splice_succ, fillA_nil, fillA_cons, buildT_eq, aggO_some, boxT_eq, bslT_eq, rowO_some, cellsO_cells, List.length_cons, List.length_nil, List.all_cons, List.all_nil, Bool.and_self, Bool.and_true, Bool.true_and, Option.bind_some, Nat.reduceLeDiff, Nat.reduceEqDiff, Nat.le_refl, and_self, if_true, if_false, List.drop_zero, List.drop_succ_cons, List.take_zero, List.take_succ_cons, List.take_nil, List.drop_nil, true_and, and_true, decide_true, decide_false, Nat.reduceMul, Nat.zero_mul, Nat.one_mul, Nat.mul_one]
    refine CAS_ok h0 h1 h4 h5 hs4 fun H5 hs5 => ?_
    have e1 : ¬ byteOf a v = (byteOf a v + 1) % 18446744073709551616 := by omega
    have e2 : (byteOf a v == (byteOf a v + 1) % 18446744073709551616) = false := by simpa using e1
    rw [f3, if_neg e1] at hs5
    rw [f3, e2]
    generalize hS4 : s3.acc 3 a _ = s4 at hs5
    have f4 : s4.f a = byteOf a v := by rw [← hS4, acc_f, byteOf_idem]
    simp only [List.cons_append, List.nil_append, bn_some, bn2_some, bnA_some, cnd_true, cnd_false, gdD_tt, gdD_tf, gdD_ft, gdD_ff, gd_tt, gd_tf, gd_ft, gd_ff, pk_true, pk_false, pickS_true, pickS_false, callV_fv, same_refl, pnil_ptr, pnil_iface, pnil_fun, fa_ptr, fld1_agg, fldN_agg, extr_tuple, binT_eql_int, binT_neq_int, binT_lss_int, binT_leq_int, binT_gtr_int, binT_geq_int, binT_add_int, binT_sub_int, binT_mul_int, binT_and_int, binT_or_int, binT_andNot_int, binT_xor_int, binT_eql_bool, binT_neq_bool, binT_eql_ptr, binT_neq_ptr, binT_eql_map, binT_neq_map, binT_eql_slc, binT_neq_slc, binT_eql_agg, binT_neq_agg, unS_not, unS_neg, unS_xor, convS_int, lenT_slice, lenT_string, minT_int, maxT_int, mapT_int, ptrTo_eq, rowTo_eq, mapTo_eq, put_res, AH.nx_put, AH.nx_new, AH.nx_res, ld1_ptr, ldN_ptr, stT_ptr, cellO_cells, lkT_some, muT_some, delT_some, lenT_map_some, lenT_map_none, lkT_none, lkT_none_ok, delT_none, Option.isNone_some, Option.isNone_none, Option.isSome_some, Option.isSome_none, Nat.zero_add, Nat.add_zero, Nat.reduceAdd, List.getElem?_cons_zero, List.getElem?_cons_succ, cellsL_int, cellsL_bool, cellsL_str, cellsL_ptr, cellsL_slice, cellsL_map, cellsL_nilFunc, cellsL_func, cellsL_nilIface, cellsL_iface, cellsL_agg, plain_int, plain_bool, plain_str, plain_ptr, plain_slice, plain_map, plain_nilFunc, plain_func, plain_nilIface, plain_iface, rw_fix, rw_opn, stO_cells, splice_zero, splice_nil, splice_succ, fillA_nil, fillA_cons, buildT_eq, aggO_some, boxT_eq, bslT_eq, rowO_some, cellsO_cells, List.length_cons, List.length_nil, List.all_cons, List.all_nil, Bool.and_self, Bool.and_true, Bool.true_and, Option.bind_some, Nat.reduceLeDiff, Nat.reduceEqDiff, Nat.le_refl, and_self, if_true, if_false, List.drop_zero, List.drop_succ_cons, List.take_zero, List.take_succ_cons, List.take_nil, List.drop_nil, true_and, and_true, decide_true, decide_false, Nat.reduceMul, Nat.zero_mul, Nat.one_mul, Nat.mul_one]
    refine CAS_ok h0 h1 h4 h5 hs5 fun H6 hs6 => ?_
    rw [f4, if_pos rfl] at hs6
    rw [f4]
    generalize hS5 : s4.acc 3 a _ = s5 at hs6
    have f5 : s5.f a = byteOf a d := by rw [← hS5, acc_f]
    simp only [List.cons_append, List.nil_append, bn_some, bn2_some, bnA_some, cnd_true, cnd_false, gdD_tt, gdD_tf, gdD_ft, gdD_ff, gd_tt, gd_tf, gd_ft, gd_ff, pk_true, pk_false, pickS_true, pickS_false, callV_fv, same_refl, pnil_ptr, pnil_iface, pnil_fun, fa_ptr, fld1_agg, fldN_agg, extr_tuple, binT_eql_int, binT_neq_int, binT_lss_int, binT_leq_int, binT_gtr_int, binT_geq_int, binT_add_int, binT_sub_int, binT_mul_int, binT_and_int, binT_or_int, binT_andNot_int, binT_xor_int, binT_eql_bool, binT_neq_bool, binT_eql_ptr, binT_neq_ptr, binT_eql_map, binT_neq_map, binT_eql_slc, binT_neq_slc, binT_eql_agg, binT_neq_agg, unS_not, unS_neg, unS_xor, convS_int, lenT_slice, lenT_string, minT_int, maxT_int, mapT_int, ptrTo_eq, rowTo_eq, mapTo_eq, put_res, AH.nx_put, AH.nx_new, AH.nx_res, ld1_ptr, ldN_ptr, stT_ptr, cellO_cells, lkT_some, muT_some, delT_some, lenT_map_some, lenT_map_none, lkT_none, lkT_none_ok, delT_none, Option.isNone_some, Option.isNone_none, Option.isSome_some, Option.isSome_none, Nat.zero_add, Nat.add_zero, Nat.reduceAdd, List.getElem?_cons_zero, List.getElem?_cons_succ, cellsL_int, cellsL_bool, cellsL_str, cellsL_ptr, cellsL_slice, cellsL_map, cellsL_nilFunc, cellsL_func, cellsL_nilIface, cellsL_iface, cellsL_agg, plain_int, plain_bool, plain_str, plain_ptr, plain_slice, plain_map, plain_nilFunc, plain_func, plain_nilIface, plain_iface, rw_fix, rw_opn, stO_cells, splice_zero, splice_nil, splice_succ, fillA_nil, fillA_cons, buildT_eq, aggO_some, boxT_eq, bslT_eq, rowO_some, cellsO_cells, List.length_cons, List.length_nil, List.all_cons, List.all_nil, Bool.and_self, Bool.and_true, Bool.true_and, Option.bind_some, Nat.reduceLeDiff, Nat.reduceEqDiff, Nat.le_refl, and_self, if_true, if_false, List.drop_zero, List.drop_succ_cons, List.take_zero, List.take_succ_cons, List.take_nil, List.drop_nil, true_and, and_true, decide_true, decide_false, Nat.reduceMul, Nat.zero_mul, Nat.one_mul, Nat.mul_one, beq_same, Bool.not_true]
    refine Peek_ok hs6 ?_
    rw [f5]
    simp only [bne_same, List.cons_append, List.nil_append, bn_some, bn2_some, bnA_some, cnd_true, cnd_false, gdD_tt, gdD_tf, gdD_ft, gdD_ff, gd_tt, gd_tf, gd_ft, gd_ff, pk_true, pk_false, pickS_true, pickS_false, callV_fv, same_refl, pnil_ptr, pnil_iface, pnil_fun, fa_ptr, fld1_agg, fldN_agg, extr_tuple, binT_eql_int, binT_neq_int, binT_lss_int, binT_leq_int, binT_gtr_int, binT_geq_int, binT_add_int, binT_sub_int, binT_mul_int, binT_and_int, binT_or_int, binT_andNot_int, binT_xor_int, binT_eql_bool, binT_neq_bool, binT_eql_ptr, binT_neq_ptr, binT_eql_map, binT_neq_map, binT_eql_slc, binT_neq_slc, binT_eql_agg, binT_neq_agg, unS_not, unS_neg, unS_xor, convS_int, lenT_slice, lenT_string, minT_int, maxT_int, mapT_int, ptrTo_eq, rowTo_eq, mapTo_eq, put_res, AH.nx_put, AH.nx_new, AH.nx_res, ld1_ptr, ldN_ptr, stT_ptr, cellO_cells, lkT_some, muT_some, delT_some, lenT_map_some, lenT_map_none, lkT_none, lkT_none_ok, delT_none, Option.isNone_some, Option.isNone_none, Option.isSome_some, Option.isSome_none, Nat.zero_add, Nat.add_zero, Nat.reduceAdd, List.getElem?_cons_zero, List.getElem?_cons_succ, cellsL_int, cellsL_bool, cellsL_str, cellsL_ptr, cellsL_slice, cellsL_map, cellsL_nilFunc, cellsL_func, cellsL_nilIface, cellsL_iface, cellsL_agg, plain_int, plain_bool, plain_str, plain_ptr, plain_slice, plain_map, plain_nilFunc, plain_func, plain_nilIface, plain_iface, rw_fix, rw_opn, stO_cells, splice_zero, splice_nil, splice_succ, fillA_nil, fillA_cons, buildT_eq, aggO_some, boxT_eq, bslT_eq, rowO_some, cellsO_cells, List.length_cons, List.length_nil, List.all_cons, List.all_nil, Bool.and_self, Bool.and_true, Bool.true_and, Option.bind_some, Nat.reduceLeDiff, Nat.reduceEqDiff, Nat.le_refl, and_self, if_true, if_false, List.drop_zero, List.drop_succ_cons, List.take_zero, List.take_succ_cons, List.take_nil, List.drop_nil, true_and, and_true, decide_true, decide_false, Nat.reduceMul, Nat.zero_mul, Nat.one_mul, Nat.mul_one]
    refine Swap_ok h0 h1 h2 h3 hs6 fun H7 hs7 => ?_
    rw [f5]
    generalize hS6 : s5.acc 4 a _ = s6 at hs7
    have f6 : s6.f a = byteOf a v := by rw [← hS6, acc_f]
    simp only [bne_same, List.cons_append, List.nil_append, bn_some, bn2_some, bnA_some, cnd_true, cnd_false, gdD_tt, gdD_tf, gdD_ft, gdD_ff, gd_tt, gd_tf, gd_ft, gd_ff, pk_true, pk_false, pickS_true, pickS_false, callV_fv, same_refl, pnil_ptr, pnil_iface, pnil_fun, fa_ptr, fld1_agg, fldN_agg, extr_tuple, binT_eql_int, binT_neq_int, binT_lss_int, binT_leq_int, binT_gtr_int, binT_geq_int, binT_add_int, binT_sub_int, binT_mul_int, binT_and_int, binT_or_int, binT_andNot_int, binT_xor_int, binT_eql_bool, binT_neq_bool, binT_eql_ptr, binT_neq_ptr, binT_eql_map, binT_neq_map, binT_eql_slc, binT_neq_slc, binT_eql_agg, binT_neq_agg, unS_not, unS_neg, unS_xor, convS_int, lenT_slice, lenT_string, minT_int, maxT_int, mapT_int, ptrTo_eq, rowTo_eq, mapTo_eq, put_res, AH.nx_put, AH.nx_new, AH.nx_res, ld1_ptr, ldN_ptr, stT_ptr, cellO_cells, lkT_some, muT_some, delT_some, lenT_map_some, lenT_map_none, lkT_none, lkT_none_ok, delT_none, Option.isNone_some, Option.isNone_none, Option.isSome_some, Option.isSome_none, Nat.zero_add, Nat.add_zero, Nat.reduceAdd, List.getElem?_cons_zero, List.getElem?_cons_succ, cellsL_int, cellsL_bool, cellsL_str, cellsL_ptr, cellsL_slice, cellsL_map, cellsL_nilFunc, cellsL_func, cellsL_nilIface, cellsL_iface, cellsL_agg, plain_int, plain_bool, plain_str, plain_ptr, plain_slice, plain_map, plain_nilFunc, plain_func, plain_nilIface, plain_iface, rw_fix, rw_opn, stO_cells, splice_zero, splice_nil, splice_succ, fillA_nil, fillA_cons, buildT_eq, aggO_some, boxT_eq, bslT_eq, rowO_some, cellsO_cells, List.length_cons, List.length_nil, List.all_cons, List.all_nil, Bool.and_self, Bool.and_true, Bool.true_and, Option.bind_some, Nat.reduceLeDiff, Nat.reduceEqDiff, Nat.le_refl, and_self, if_true, if_false, List.drop_zero, List.drop_succ_cons, List.take_zero, List.take_succ_cons, List.take_nil, List.drop_nil, true_and, and_true, decide_true, decide_false, Nat.reduceMul, Nat.zero_mul, Nat.one_mul, Nat.mul_one]
    refine Peek_ok hs7 ?_
    rw [f6]
    simp only [bne_same, List.cons_append, List.nil_append, bn_some, bn2_some, bnA_some, cnd_true, cnd_false, gdD_tt, gdD_tf, gdD_ft, gdD_ff, gd_tt, gd_tf, gd_ft, gd_ff, pk_true, pk_false, pickS_true, pickS_false, callV_fv, same_refl, pnil_ptr, pnil_iface, pnil_fun, fa_ptr, fld1_agg, fldN_agg, extr_tuple, binT_eql_int, binT_neq_int, binT_lss_int, binT_leq_int, binT_gtr_int, binT_geq_int, binT_add_int, binT_sub_int, binT_mul_int, binT_and_int, binT_or_int, binT_andNot_int, binT_xor_int, binT_eql_bool, binT_neq_bool, binT_eql_ptr, binT_neq_ptr, binT_eql_map, binT_neq_map, binT_eql_slc, binT_neq_slc, binT_eql_agg, binT_neq_agg, unS_not, unS_neg, unS_xor, convS_int, lenT_slice, lenT_string, minT_int, maxT_int, mapT_int, ptrTo_eq, rowTo_eq, mapTo_eq, put_res, AH.nx_put, AH.nx_new, AH.nx_res, ld1_ptr, ldN_ptr, stT_ptr, cellO_cells, lkT_some, muT_some, delT_some, lenT_map_some, lenT_map_none, lkT_none, lkT_none_ok, delT_none, Option.isNone_some, Option.isNone_none, Option.isSome_some, Option.isSome_none, Nat.zero_add, Nat.add_zero, Nat.reduceAdd, List.getElem?_cons_zero, List.getElem?_cons_succ, cellsL_int, cellsL_bool, cellsL_str, cellsL_ptr, cellsL_slice, cellsL_map, cellsL_nilFunc, cellsL_func, cellsL_nilIface, cellsL_iface, cellsL_agg, plain_int, plain_bool, plain_str, plain_ptr, plain_slice, plain_map, plain_nilFunc, plain_func, plain_nilIface, plain_iface, rw_fix, rw_opn, stO_cells, splice_zero, splice_nil, splice_succ, fillA_nil, fillA_cons, buildT_eq, aggO_some, boxT_eq, bslT_eq, rowO_some, cellsO_cells, List.length_cons, List.length_nil, List.all_cons, List.all_nil, Bool.and_self, Bool.and_true, Bool.true_and, Option.bind_some, Nat.reduceLeDiff, Nat.reduceEqDiff, Nat.le_refl, and_self, if_true, if_false, List.drop_zero, List.drop_succ_cons, List.take_zero, List.take_succ_cons, List.take_nil, List.drop_nil, true_and, and_true, decide_true, decide_false, Nat.reduceMul, Nat.zero_mul, Nat.one_mul, Nat.mul_one]
    refine Or_ok h0 h1 hs7 fun H8 hs8 => ?_
    rw [f6] at hs8
    generalize hS7 : s6.acc 7 a _ = s7 at hs8
    have f7 : s7.f a = byteOf a (orI (byteOf a v) d) := by rw [← hS7, acc_f]
    refine And_ok h0 h1 hs8 fun H9 hs9 => ?_
    rw [f7] at hs9
    generalize hS8 : s7.acc 6 a _ = s8 at hs9
    have f8 : s8.f a = andNotI (byteOf a v) d := by rw [← hS8, acc_f]; exact clears h2 h3
    refine Peek_ok hs9 ?_
    have e3 : IntKind.u64.wrap ((BitVec.ofInt IntKind.u64.bits (byteOf a v) &&& ~~~ BitVec.ofInt IntKind.u64.bits d).toNat : Int) = andNotI (byteOf a v) d := bits_wrap _
    rw [w64] at e3
    rw [f8, e3]
    simp only [beq_same, List.cons_append, List.nil_append, bn_some, bn2_some, bnA_some, cnd_true, cnd_false, gdD_tt, gdD_tf, gdD_ft, gdD_ff, gd_tt, gd_tf, gd_ft, gd_ff, pk_true, pk_false, pickS_true, pickS_false, callV_fv, same_refl, pnil_ptr, pnil_iface, pnil_fun, fa_ptr, fld1_agg, fldN_agg, extr_tuple, binT_eql_int, binT_neq_int, binT_lss_int, binT_leq_int, binT_gtr_int, binT_geq_int, binT_add_int, binT_sub_int, binT_mul_int, binT_and_int, binT_or_int, binT_andNot_int, binT_xor_int, binT_eql_bool, binT_neq_bool, binT_eql_ptr, binT_neq_ptr, binT_eql_map, binT_neq_map, binT_eql_slc, binT_neq_slc, binT_eql_agg, binT_neq_agg, unS_not, unS_neg, unS_xor, convS_int, lenT_slice, lenT_string, minT_int, maxT_int, mapT_int, ptrTo_eq, rowTo_eq, mapTo_eq, put_res, AH.nx_put, AH.nx_new, AH.nx_res, ld1_ptr, ldN_ptr, stT_ptr, cellO_cells, lkT_some, muT_some, delT_some, lenT_map_some, lenT_map_none, lkT_none, lkT_none_ok, delT_none, Option.isNone_some, Option.isNone_none, Option.isSome_some, Option.isSome_none, Nat.zero_add, Nat.add_zero, Nat.reduceAdd, List.getElem?_cons_zero, List.getElem?_cons_succ, cellsL_int, cellsL_bool, cellsL_str, cellsL_ptr, cellsL_slice, cellsL_map, cellsL_nilFunc, cellsL_func, cellsL_nilIface, cellsL_iface, cellsL_agg, plain_int, plain_bool, plain_str, plain_ptr, plain_slice, plain_map, plain_nilFunc, plain_func, plain_nilIface, plain_iface, rw_fix, rw_opn, stO_cells, splice_zero, splice_nil, splice_succ, fillA_nil, fillA_cons, buildT_eq, aggO_some, boxT_eq, bslT_eq, rowO_some, cellsO_cells, List.length_cons, List.length_nil, List.all_cons, List.all_nil, Bool.and_self, Bool.and_true, Bool.true_and, Option.bind_some, Nat.reduceLeDiff, Nat.reduceEqDiff, Nat.le_refl, and_self, if_true, if_false, List.drop_zero, List.drop_succ_cons, List.take_zero, List.take_succ_cons, List.take_nil, List.drop_nil, true_and, and_true, decide_true, decide_false, Nat.reduceMul, Nat.zero_mul, Nat.one_mul, Nat.mul_one]
    exact lives02_ok (hK _)
  · intro R hR
    refine Byte_ok h0 h1 ?_
    cases hb : isByte a with
    | true =>
      have e3 : v.tmod 256 = v % 256 := Int.tmod_eq_emod_of_nonneg h2
      simp only [List.cons_append, List.nil_append, bn_some, bn2_some, bnA_some, cnd_true, cnd_false, gdD_tt, gdD_tf, gdD_ft, gdD_ff, gd_tt, gd_tf, gd_ft, gd_ff, pk_true, pk_false, pickS_true, pickS_false, callV_fv, same_refl, pnil_ptr, pnil_iface, pnil_fun, fa_ptr, fld1_agg, fldN_agg, extr_tuple, binT_eql_int, binT_neq_int, binT_lss_int, binT_leq_int, binT_gtr_int, binT_geq_int, binT_add_int, binT_sub_int, binT_mul_int, binT_and_int, binT_or_int, binT_andNot_int, binT_xor_int, binT_eql_bool, binT_neq_bool, binT_eql_ptr, binT_neq_ptr, binT_eql_map, binT_neq_map, binT_eql_slc, binT_neq_slc, binT_eql_agg, binT_neq_agg, unS_not, unS_neg, unS_xor, convS_int, lenT_slice, lenT_string, minT_int, maxT_int, mapT_int, ptrTo_eq, rowTo_eq, mapTo_eq, put_res, AH.nx_put, AH.nx_new, AH.nx_res, ld1_ptr, ldN_ptr, stT_ptr, cellO_cells, lkT_some, muT_some, delT_some, lenT_map_some, lenT_map_none, lkT_none, lkT_none_ok, delT_none, Option.isNone_some, Option.isNone_none, Option.isSome_some, Option.isSome_none, Nat.zero_add, Nat.add_zero, Nat.reduceAdd, List.getElem?_cons_zero, List.getElem?_cons_succ, cellsL_int, cellsL_bool, cellsL_str, cellsL_ptr, cellsL_slice, cellsL_map, cellsL_nilFunc, cellsL_func, cellsL_nilIface, cellsL_iface, cellsL_agg, plain_int, plain_bool, plain_str, plain_ptr, plain_slice, plain_map, plain_nilFunc, plain_func, plain_nilIface, plain_iface, rw_fix, rw_opn, stO_cells, splice_zero, splice_nil, splice_succ, fillA_nil, fillA_cons, buildT_eq, aggO_some, boxT_eq, bslT_eq, rowO_some, cellsO_cells, List.length_cons, List.length_nil, List.all_cons, List.all_nil, Bool.and_self, Bool.and_true, Bool.true_and, Option.bind_some, Nat.reduceLeDiff, Nat.reduceEqDiff, Nat.le_refl, and_self, if_true, if_false, List.drop_zero, List.drop_succ_cons, List.take_zero, List.take_succ_cons, List.take_nil, List.drop_nil, true_and, and_true, decide_true, decide_false, Nat.reduceMul, Nat.zero_mul, Nat.one_mul, Nat.mul_one, binT_rem_int _ _ _ _ 256 (by decide), e3]
      exact hR _ _ ⟨rfl, by simp [byteOf, hb]⟩
    | false =>
      simp only [List.cons_append, List.nil_append, bn_some, bn2_some, bnA_some, cnd_true, cnd_false, gdD_tt, gdD_tf, gdD_ft, gdD_ff, gd_tt, gd_tf, gd_ft, gd_ff, pk_true, pk_false, pickS_true, pickS_false, callV_fv, same_refl, pnil_ptr, pnil_iface, pnil_fun, fa_ptr, fld1_agg, fldN_agg, extr_tuple, binT_eql_int, binT_neq_int, binT_lss_int, binT_leq_int, binT_gtr_int, binT_geq_int, binT_add_int, binT_sub_int, binT_mul_int, binT_and_int, binT_or_int, binT_andNot_int, binT_xor_int, binT_eql_bool, binT_neq_bool, binT_eql_ptr, binT_neq_ptr, binT_eql_map, binT_neq_map, binT_eql_slc, binT_neq_slc, binT_eql_agg, binT_neq_agg, unS_not, unS_neg, unS_xor, convS_int, lenT_slice, lenT_string, minT_int, maxT_int, mapT_int, ptrTo_eq, rowTo_eq, mapTo_eq, put_res, AH.nx_put, AH.nx_new, AH.nx_res, ld1_ptr, ldN_ptr, stT_ptr, cellO_cells, lkT_some, muT_some, delT_some, lenT_map_some, lenT_map_none, lkT_none, lkT_none_ok, delT_none, Option.isNone_some, Option.isNone_none, Option.isSome_some, Option.isSome_none, Nat.zero_add, Nat.add_zero, Nat.reduceAdd, List.getElem?_cons_zero, List.getElem?_cons_succ, cellsL_int, cellsL_bool, cellsL_str, cellsL_ptr, cellsL_slice, cellsL_map, cellsL_nilFunc, cellsL_func, cellsL_nilIface, cellsL_iface, cellsL_agg, plain_int, plain_bool, plain_str, plain_ptr, plain_slice, plain_map, plain_nilFunc, plain_func, plain_nilIface, plain_iface, rw_fix, rw_opn, stO_cells, splice_zero, splice_nil, splice_succ, fillA_nil, fillA_cons, buildT_eq, aggO_some, boxT_eq, bslT_eq, rowO_some, cellsO_cells, List.length_cons, List.length_nil, List.all_cons, List.all_nil, Bool.and_self, Bool.and_true, Bool.true_and, Option.bind_some, Nat.reduceLeDiff, Nat.reduceEqDiff, Nat.le_refl, and_self, if_true, if_false, List.drop_zero, List.drop_succ_cons, List.take_zero, List.take_succ_cons, List.take_nil, List.drop_nil, true_and, and_true, decide_true, decide_false, Nat.reduceMul, Nat.zero_mul, Nat.one_mul, Nat.mul_one]
      exact hR _ _ ⟨rfl, by simp [byteOf, hb]⟩
end Go.Proofs.Ytiolnpeniklhiaa
