/- A CAS of cells, new cells, and the statement on what goes back.
   Conditions: what stands in memory, as each states it. -/
import Derived.Test.YtiolnpeniklhiaaCells
import Derived.Test.YtiolnpeniklhiaaAbTab
namespace Go.Proofs.Ytiolnpeniklhiaa
open Go Go.Ab
set_option linter.all false
set_option maxRecDepth 1000000

theorem lives02_lev : lev Try.prog (mtOf Try.prog) tab 100 20 Fi.laybylaw02_lives [] ⟨.nil, Try.prog.globals.size⟩ (fun v _ => v = .bool true ∧ bare v = true) :=
  Eq.mpr (by kernel_rfl : lev Try.prog (mtOf Try.prog) tab 100 20 Fi.laybylaw02_lives [] ⟨.nil, Try.prog.globals.size⟩ (fun v _ => v = .bool true ∧ bare v = true) = (Value.bool true = .bool true ∧ true = true)) ⟨rfl, rfl⟩
theorem lives02_ok {H : AH} {K : KV} (hK : K (.bool true) H) : DS Try.prog Fi.laybylaw02_lives [] H K :=
  DS.closed (Q := fun v => v = .bool true) ((tab_sound _ _).ds lives02_lev) rfl (by rintro v rfl; exact hK)
theorem CAS_ok {c : Nat} {s : CS} {a was is : Int} {H : AH} {K : KV} {F : SL} (h0 : 0 ≤ a) (h1 : a < 4294967296) (hv : 0 ≤ is) (hv' : is < 18446744073709551616) (hs : sat H (CellsP c s * F))
    (hK : ∀ H', sat H' (CellsP c (s.acc 3 a (if s.f a = was then is else s.f a)) * F) → K (.tuple ⟨[.int .u64 (s.f a), .bool (s.f a == was)]⟩) H') :
    DS Try.prog Fi.cells_Cells_CAS [ptr c, .int .u32 a, .int .u64 was, .int .u64 is] H K := by
  refine use_cells_Cells_CAS 0 ?_
  unfold sh_cells_Cells_CAS
  simp only [RS, List.cons_append, List.nil_append, Option.isNone_some, Option.isNone_none, Option.isSome_some, Option.isSome_none, Nat.zero_add, Nat.add_zero, Nat.reduceAdd, List.getElem?_cons_zero, List.getElem?_cons_succ, List.length_cons, List.length_nil, List.all_cons, List.all_nil, Bool.and_self, Bool.and_true, Bool.true_and, Option.bind_some, Nat.reduceLeDiff, Nat.reduceEqDiff, Nat.le_refl, and_self, if_true, if_false, List.drop_zero, List.drop_succ_cons, List.take_zero, List.take_succ_cons, List.take_nil, List.drop_nil, true_and, and_true, decide_true, decide_false, Nat.reduceMul, Nat.zero_mul, Nat.one_mul, Nat.mul_one]
  have hr := CellsP.rng hs a
  have hs1 := sat_new (.cells [.bool false] Ty.bool .fix) (sat_new (.cells [.int .u64 is] Ty.uint64 .fix) (sat_new (.cells [.int .u64 was] Ty.uint64 .fix) hs))
  simp only [AH.nx_new] at hs1
  generalize H.nx = n at hs1 ⊢
  generalize ((H.new (.cells [.int .u64 was] Ty.uint64 .fix)).new (.cells [.int .u64 is] Ty.uint64 .fix)).new (.cells [.bool false] Ty.bool .fix) = H1 at hs1 ⊢
  have hs2 := sat_of_eq (B := CellsP c s * (ptsL [(n, .cells [.int .u64 was] Ty.uint64 .fix), (n + 1 + 1, .cells [.bool false] Ty.bool .fix), (n + 1, .cells [.int .u64 is] Ty.uint64 .fix)] * F)) hs1 (by simp only [ptsL_cons, ptsL_nil, sep_emp]; ac_rfl)
  refine access_ok (is := if s.f a = was then is else s.f a) (F' := ptsL [(n, .cells [.int .u64 was] Ty.uint64 .fix), (n + 1 + 1, .cells [.bool (s.f a == was)] Ty.bool .fix), (n + 1, .cells [.int .u64 is] Ty.uint64 .fix)] * F) h0 h1 (by split <;> omega) (by split <;> omega) hs2 (fun K' h => ?_) (fun H' hs3 => ?_)
  · simp only [RS, List.cons_append, List.nil_append, Option.isNone_some, Option.isNone_none, Option.isSome_some, Option.isSome_none, Nat.zero_add, Nat.add_zero, Nat.reduceAdd, List.getElem?_cons_zero, List.getElem?_cons_succ, List.length_cons, List.length_nil, List.all_cons, List.all_nil, Bool.and_self, Bool.and_true, Bool.true_and, Option.bind_some, Nat.reduceLeDiff, Nat.reduceEqDiff, Nat.le_refl, and_self, if_true, if_false, List.drop_zero, List.drop_succ_cons, List.take_zero, List.take_succ_cons, List.take_nil, List.drop_nil, true_and, and_true, decide_true, decide_false, Nat.reduceMul, Nat.zero_mul, Nat.one_mul, Nat.mul_one]
    refine CAS1_ok (F := CellsP c s * F) (sat_of_eq hs2 (by ac_rfl)) fun H2 hs3 => h _ (sat_of_eq hs3 (by ac_rfl))
  · have hs4 := sat_of_eq (B := pts (n + 1 + 1) (.cells [.bool (s.f a == was)] Ty.bool .fix) * (CellsP c (s.acc 3 a (if s.f a = was then is else s.f a)) * (ptsL [(n, .cells [.int .u64 was] Ty.uint64 .fix), (n + 1, .cells [.int .u64 is] Ty.uint64 .fix)] * F))) hs3 (by simp only [ptsL_cons, ptsL_nil, sep_emp]; ac_rfl)
    have g := sat_get hs4
    simp only [RS, List.cons_append, List.nil_append, Option.isNone_some, Option.isNone_none, Option.isSome_some, Option.isSome_none, Nat.zero_add, Nat.add_zero, Nat.reduceAdd, List.getElem?_cons_zero, List.getElem?_cons_succ, List.length_cons, List.length_nil, List.all_cons, List.all_nil, Bool.and_self, Bool.and_true, Bool.true_and, Option.bind_some, Nat.reduceLeDiff, Nat.reduceEqDiff, Nat.le_refl, and_self, if_true, if_false, List.drop_zero, List.drop_succ_cons, List.take_zero, List.take_succ_cons, List.take_nil, List.drop_nil, true_and, and_true, decide_true, decide_false, Nat.reduceMul, Nat.zero_mul, Nat.one_mul, Nat.mul_one, g.1, get_put_eq, get_put_ne, get_new_eq, get_new_ne]
    have hs5 := sat_put (.cells [.bool (s.f a == was)] Ty.bool .fix) hs4
    exact hK _ (sat_sub (sat_of_eq (A := _) (B := (pts (n + 1 + 1) (.cells [.bool (s.f a == was)] Ty.bool .fix) * ptsL [(n, .cells [.int .u64 was] Ty.uint64 .fix), (n + 1, .cells [.int .u64 is] Ty.uint64 .fix)]) * (CellsP c (s.acc 3 a (if s.f a = was then is else s.f a)) * F)) hs5 (by ac_rfl)))
def CS0 : CS := ⟨fun _ => 0, 0, 0, 0, 0, 0⟩
theorem rngF0 : rngF CS0.f := fun k => ⟨by simp [CS0], by simp [CS0], by simp [CS0, byteOf]⟩
theorem CellsP_new {H : AH} {F : SL} (hs : sat H F) : sat (H.new (CS0.hd (.map none))) (CellsP H.nx CS0 * F) := by
  refine sat_obj.2 ⟨none, ⟨fun k => rfl, rngF0⟩, ?_⟩
  show sat _ (ptsL [(H.nx, CS0.hd (.map none))] * F)
  rw [ptsL_cons, ptsL_nil, sep_emp]
  exact sat_new _ hs
theorem New0_ok {H : AH} {K : KV} {F : SL} (hs : sat H F) (hK : ∀ c H', sat H' (CellsP c CS0 * F) → K (ptr c) H') : DS Try.prog Fi.cells_New [.slice none 0 0] H K := by
  refine use_cells_New 1 ?_
  unfold sh_cells_New
  have hs1 := CellsP_new hs
  have hg := CellsP.peek hs1
  have g : (H.new (CS0.hd (.map none))).get H.nx = some (CS0.hd (.map none)) := get_new_eq _ _ rfl
  simp only [CS0, CS.hd] at g hs1
  have hd : decide ((0 : Int) < ((0 : Nat) : Int)) = false := rfl
  simp only [RS, List.cons_append, List.nil_append, Option.isNone_some, Option.isNone_none, Option.isSome_some, Option.isSome_none, Nat.zero_add, Nat.add_zero, Nat.reduceAdd, List.getElem?_cons_zero, List.getElem?_cons_succ, List.length_cons, List.length_nil, List.all_cons, List.all_nil, Bool.and_self, Bool.and_true, Bool.true_and, Option.bind_some, Nat.reduceLeDiff, Nat.reduceEqDiff, Nat.le_refl, and_self, if_true, if_false, List.drop_zero, List.drop_succ_cons, List.take_zero, List.take_succ_cons, List.take_nil, List.drop_nil, true_and, and_true, decide_true, decide_false, Nat.reduceMul, Nat.zero_mul, Nat.one_mul, Nat.mul_one, lp, g, hd]
  refine hK _ _ ?_
  have hs2 := CellsP_new hs1
  simp only [CS0, CS.hd, AH.nx_new] at hs2
  exact sat_sub (sat_of_eq (A := _) (B := CellsP H.nx ⟨fun _ => 0, 0, 0, 0, 0, 0⟩ * (CellsP (H.nx + 1) CS0 * F)) hs2 (by simp only [CS0]; ac_rfl))
end Go.Proofs.Ytiolnpeniklhiaa
