/- Cells from words, and the document's: what both begin with.
   Conditions: what stands in memory, as each states it. -/
import Derived.Test.YtiolnpeniklhiaaCellsVoid
namespace Go.Proofs.Ytiolnpeniklhiaa
open Go Go.Ab
set_option linter.all false
set_option maxRecDepth 100000

def foldF (l : WL) : Int → Int := l.foldl (fun f p => upd f p.1 (byteOf p.1 p.2)) fun _ => 0
theorem foldF_snoc (l : WL) (p : Int × Int) : foldF (l ++ [p]) = upd (foldF l) p.1 (byteOf p.1 p.2) := by simp [foldF]
def CSN (l : WL) : CS := { CS0 with f := foldF l }
def wordOK (p : Int × Int) : Prop := (0 ≤ p.1 ∧ p.1 < 4294967296) ∧ 0 ≤ p.2 ∧ p.2 < 18446744073709551616
/-- Cells with another header. -/
theorem CellsP_head {c : Nat} {s s' : CS} {H : AH} {F : SL} (hf : s'.f = s.f) (hs : sat H (CellsP c s * F)) : ∃ o : Option Nat, H.get c = some (s.hd (.map o)) ∧ sat (H.new (s'.hd (.map o))) (CellsP H.nx s' * F) := by
  obtain ⟨q, ⟨hq, hr⟩, hp⟩ := sat_obj.1 hs
  cases q with
  | none =>
    have hc : sat H (pts c (s.hd (.map none)) * F) := sat_of_eq hp (by simp only [layC, ptsL_cons, ptsL_nil, sep_emp])
    refine ⟨_, (sat_get hc).1, sat_obj.2 ⟨none, ⟨by show ∀ k, s'.f k = 0; rw [hf]; exact hq, by rw [hf]; exact hr⟩, ?_⟩⟩
    exact sat_of_eq (sat_new _ (sat_sub hc)) (by simp only [layC, ptsL_cons, ptsL_nil, sep_emp])
  | some w =>
    have hc : sat H (pts c (s.hd (.map (some w.m))) * (pts w.m (.map w.es w.clk) * F)) := sat_of_eq hp (by simp only [layC, ptsL_cons, ptsL_nil, sep_emp]; ac_rfl)
    refine ⟨_, (sat_get hc).1, sat_obj.2 ⟨some w, ⟨⟨hq.1, by rw [hf]; exact hq.2⟩, by rw [hf]; exact hr⟩, ?_⟩⟩
    exact sat_of_eq (sat_new _ (sat_sub hc)) (by simp only [layC, ptsL_cons, ptsL_nil, sep_emp]; ac_rfl)
theorem New_ok {v : Value} {l : WL} {H : AH} {K : KV} {F : SL} (hr : ∀ H', sat H' F → Row H' v l) (hl : l.length < 1000) (hv : ∀ p ∈ l, wordOK p) (hs : sat H F)
    (hK : ∀ c H', sat H' (CellsP c (CSN l) * F) → K (ptr c) H') : DS Try.prog Fi.cells_New [v] H K := by
  refine use_cells_New (l.length + 2) ?_
  unfold sh_cells_New
  have hs1 := CellsP_new hs
  have row1 := hr _ (sat_sub hs1)
  have e0 : (.cells [.map none, .int .i64 0, .int .u8 0, .int .u32 0, .int .u64 0, .int .u64 0] Ty.cells_Cells .fix : AObj) = CS0.hd (.map none) := rfl
  simp only [bnA_some, e0, row1.len, bn_some]
  refine lp_rule (fun n t H1 => ∃ (i : Nat) (s : CS), i ≤ l.length ∧ l.length < n + i ∧ s.f = foldF (l.take i) ∧ t = (ptr H.nx, v, .int .i64 (l.length : Int), .int .i64 (i : Int), ()) ∧ sat H1 (CellsP H.nx s * F)) ?_ ?_
    ⟨0, CS0, by omega, by omega, rfl, rfl, hs1⟩
  · rintro n t H1 ⟨i, s, hi, hn, hf, rfl, h1⟩ R hR
    have row := hr _ (sat_sub h1)
    by_cases hil : i < l.length
    · have hd : decide ((i : Int) < (l.length : Int)) = true := by simpa using hil
      obtain ⟨p, hpi⟩ : ∃ p, l[i]? = some p := ⟨_, List.getElem?_eq_getElem hil⟩
      obtain ⟨n', e1, e2, e3, e4⟩ := row.at0 i p hpi
      have hw : IntKind.i64.wrap ((i : Int) + 1) = ((i + 1 : Nat) : Int) := by rw [w64n (by omega)]; omega
      have hp := hv p (List.mem_of_getElem? hpi)
      have h2 := sat_put (.cells [.int .u32 p.1, .int .u64 p.2] Ty.cells_Word .fix) (sat_new (.cells [.int .u32 0, .int .u64 0] Ty.cells_Word .fix) h1)
      simp only [RS, List.cons_append, List.nil_append, Option.isNone_some, Option.isNone_none, Option.isSome_some, Option.isSome_none, Nat.zero_add, Nat.add_zero, Nat.reduceAdd, List.getElem?_cons_zero, List.getElem?_cons_succ, List.length_cons, List.length_nil, List.all_cons, List.all_nil, Bool.and_self, Bool.and_true, Bool.true_and, Option.bind_some, Nat.reduceLeDiff, Nat.reduceEqDiff, Nat.le_refl, and_self, if_true, if_false, List.drop_zero, List.drop_succ_cons, List.take_zero, List.take_succ_cons, List.take_nil, List.drop_nil, true_and, and_true, decide_true, decide_false, Nat.reduceMul, Nat.zero_mul, Nat.one_mul, Nat.mul_one, hd, e1, e4, rowW, get_put_eq, get_put_ne, get_new_eq, get_new_ne]
      refine Store_ok (s := s) hp.1.1 hp.1.2 hp.2.1 hp.2.2 (sat_sub h2) fun H3 h3 => ?_
      simp only [RS, List.cons_append, List.nil_append, Option.isNone_some, Option.isNone_none, Option.isSome_some, Option.isSome_none, Nat.zero_add, Nat.add_zero, Nat.reduceAdd, List.getElem?_cons_zero, List.getElem?_cons_succ, List.length_cons, List.length_nil, List.all_cons, List.all_nil, Bool.and_self, Bool.and_true, Bool.true_and, Option.bind_some, Nat.reduceLeDiff, Nat.reduceEqDiff, Nat.le_refl, and_self, if_true, if_false, List.drop_zero, List.drop_succ_cons, List.take_zero, List.take_succ_cons, List.take_nil, List.drop_nil, true_and, and_true, decide_true, decide_false, Nat.reduceMul, Nat.zero_mul, Nat.one_mul, Nat.mul_one, hw]
      refine hR _ _ ⟨i + 1, s.acc 2 p.1 p.2, by omega, by omega, ?_, rfl, h3⟩
      obtain ⟨_, rfl⟩ := List.getElem?_eq_some_iff.1 hpi
      rw [List.take_succ_eq_append_getElem hil, foldF_snoc, ← hf]
      rfl
    · have hd : decide ((i : Int) < (l.length : Int)) = false := by simpa using hil
      have hf' : (CSN l).f = s.f := by rw [hf, List.take_of_length_le (by omega)]; rfl
      obtain ⟨mv, g, h2⟩ := CellsP_head (s' := CSN l) hf' h1
      simp only [RS, List.cons_append, List.nil_append, Option.isNone_some, Option.isNone_none, Option.isSome_some, Option.isSome_none, Nat.zero_add, Nat.add_zero, Nat.reduceAdd, List.getElem?_cons_zero, List.getElem?_cons_succ, List.length_cons, List.length_nil, List.all_cons, List.all_nil, Bool.and_self, Bool.and_true, Bool.true_and, Option.bind_some, Nat.reduceLeDiff, Nat.reduceEqDiff, Nat.le_refl, and_self, if_true, if_false, List.drop_zero, List.drop_succ_cons, List.take_zero, List.take_succ_cons, List.take_nil, List.drop_nil, true_and, and_true, decide_true, decide_false, Nat.reduceMul, Nat.zero_mul, Nat.one_mul, Nat.mul_one, hd, ptr, g, CS.hd]
      exact hK _ _ h2
  · rintro t H1 ⟨i, s, hi, hn, -⟩; omega
theorem RNew_ok {v : Value} {l : WL} {H : AH} {K : KV} {F : SL} (hr : ∀ H', sat H' F → Row H' v l) (hl : l.length < 1000) (hv : ∀ p ∈ l, wordOK p) (hs : sat H F)
    (hK : ∀ r H', sat H' (RefP r (CSN l) l.length * F) → K (ptr r) H') : DS Try.prog Fi.laybyref02_New [v] H K := by
  refine use_laybyref02_New (l.length + 2) ?_
  unfold sh_laybyref02_New
  have hs1 := RefP_new hs
  have e0 : (.cells [.slice none 0 0, .int .i64 0, .int .u8 0, .int .u32 0, .int .u64 0, .int .u64 0] Ty.laybyref02_Cells .fix : AObj) = CS0.rhd (.slice none 0 0) := rfl
  simp only [RS, List.cons_append, List.nil_append, Option.isNone_some, Option.isNone_none, Option.isSome_some, Option.isSome_none, Nat.zero_add, Nat.add_zero, Nat.reduceAdd, List.getElem?_cons_zero, List.getElem?_cons_succ, List.length_cons, List.length_nil, List.all_cons, List.all_nil, Bool.and_self, Bool.and_true, Bool.true_and, Option.bind_some, Nat.reduceLeDiff, Nat.reduceEqDiff, Nat.le_refl, and_self, if_true, if_false, List.drop_zero, List.drop_succ_cons, List.take_zero, List.take_succ_cons, List.take_nil, List.drop_nil, true_and, and_true, decide_true, decide_false, Nat.reduceMul, Nat.zero_mul, Nat.one_mul, Nat.mul_one, e0]
  refine lp_rule (fun n t H1 => ∃ (i : Nat) (s : CS), i ≤ l.length ∧ l.length < n + i ∧ s.f = foldF (l.take i) ∧ t = (v, ptr H.nx, .int .i64 (i : Int), ()) ∧ sat H1 (RefP H.nx s i * F)) ?_ ?_
    ⟨0, CS0, by omega, by omega, rfl, rfl, hs1⟩
  · rintro n t H1 ⟨i, s, hi, hn, hf, rfl, h1⟩ R hR
    have row := hr _ (sat_sub h1)
    by_cases hil : i < l.length
    · have hd : decide ((i : Int) < (l.length : Int)) = true := by simpa using hil
      obtain ⟨p, hpi⟩ : ∃ p, l[i]? = some p := ⟨_, List.getElem?_eq_getElem hil⟩
      obtain ⟨n', e1, e2, e3, e4⟩ := row.at0 i p hpi
      have hw : IntKind.i64.wrap ((i : Int) + 1) = ((i + 1 : Nat) : Int) := by rw [w64n (by omega)]; omega
      have hp := hv p (List.mem_of_getElem? hpi)
      simp only [RS, List.cons_append, List.nil_append, Option.isNone_some, Option.isNone_none, Option.isSome_some, Option.isSome_none, Nat.zero_add, Nat.add_zero, Nat.reduceAdd, List.getElem?_cons_zero, List.getElem?_cons_succ, List.length_cons, List.length_nil, List.all_cons, List.all_nil, Bool.and_self, Bool.and_true, Bool.true_and, Option.bind_some, Nat.reduceLeDiff, Nat.reduceEqDiff, Nat.le_refl, and_self, if_true, if_false, List.drop_zero, List.drop_succ_cons, List.take_zero, List.take_succ_cons, List.take_nil, List.drop_nil, true_and, and_true, decide_true, decide_false, Nat.reduceMul, Nat.zero_mul, Nat.one_mul, Nat.mul_one, row.len, hd, e1, e2, e3]
      refine RStore_ok (s := s) (by omega) hp.1.1 hp.1.2 hp.2.1 hp.2.2 h1 fun H3 h3 => ?_
      simp only [RS, List.cons_append, List.nil_append, Option.isNone_some, Option.isNone_none, Option.isSome_some, Option.isSome_none, Nat.zero_add, Nat.add_zero, Nat.reduceAdd, List.getElem?_cons_zero, List.getElem?_cons_succ, List.length_cons, List.length_nil, List.all_cons, List.all_nil, Bool.and_self, Bool.and_true, Bool.true_and, Option.bind_some, Nat.reduceLeDiff, Nat.reduceEqDiff, Nat.le_refl, and_self, if_true, if_false, List.drop_zero, List.drop_succ_cons, List.take_zero, List.take_succ_cons, List.take_nil, List.drop_nil, true_and, and_true, decide_true, decide_false, Nat.reduceMul, Nat.zero_mul, Nat.one_mul, Nat.mul_one, hw]
      refine hR _ _ ⟨i + 1, s.acc 2 p.1 p.2, by omega, by omega, ?_, rfl, h3⟩
      obtain ⟨_, rfl⟩ := List.getElem?_eq_some_iff.1 hpi
      rw [List.take_succ_eq_append_getElem hil, foldF_snoc, ← hf]
      rfl
    · have hd : decide ((i : Int) < (l.length : Int)) = false := by simpa using hil
      have hf' : (CSN l).f = s.f := by rw [hf, List.take_of_length_le (by omega)]; rfl
      obtain ⟨w, L, hL, hrng, hlen, hp⟩ := sat_ref.1 h1
      have g := (sat_get hp).1
      have h2 : sat (H1.new ((CSN l).rhd w)) (RefP H1.nx (CSN l) l.length * F) :=
        sat_ref.2 ⟨w, L, by rw [hf']; exact hL, by rw [hf']; exact hrng, by omega, sat_new _ (sat_sub hp)⟩
      have hsl : ∃ a n c, w = .slice a n c := by
        rcases sat_own.1 (sat_sub hp) with ⟨e, -, -⟩ | ⟨m, len, e, -, -⟩ <;> exact ⟨_, _, _, e⟩
      obtain ⟨a, n1, c1, rfl⟩ := hsl
      simp only [RS, List.cons_append, List.nil_append, Option.isNone_some, Option.isNone_none, Option.isSome_some, Option.isSome_none, Nat.zero_add, Nat.add_zero, Nat.reduceAdd, List.getElem?_cons_zero, List.getElem?_cons_succ, List.length_cons, List.length_nil, List.all_cons, List.all_nil, Bool.and_self, Bool.and_true, Bool.true_and, Option.bind_some, Nat.reduceLeDiff, Nat.reduceEqDiff, Nat.le_refl, and_self, if_true, if_false, List.drop_zero, List.drop_succ_cons, List.take_zero, List.take_succ_cons, List.take_nil, List.drop_nil, true_and, and_true, decide_true, decide_false, Nat.reduceMul, Nat.zero_mul, Nat.one_mul, Nat.mul_one, row.len, hd, ptr, g, CS.rhd]
      exact hK _ _ h2
  · rintro t H1 ⟨i, s, hi, hn, -⟩; omega
end Go.Proofs.Ytiolnpeniklhiaa
