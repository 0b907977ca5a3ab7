/- The cells' contracts.
   Conditions: what stands in memory, as each states it. -/
import Derived.Test.YtiolnpeniklhiaaSh
import Derived.Test.YtiolnpeniklhiaaAb2
import Derived.IntWalk
namespace Go.Proofs.Ytiolnpeniklhiaa
open Go Go.Ab
set_option linter.all false
set_option maxRecDepth 100000

theorem sat_emp' (H : AH) : sat H emp := ⟨fun _ => none, fun _ => rfl, fun n o h => by cases h⟩
abbrev slc (n len cap : Nat) : Value := .slice (some ⟨n, 0, none⟩) len cap
theorem i64nat {n : Nat} (h : n < 1000000) : IntKind.i64.wrap ((n : Int) + 1) = ((n + 1 : Nat) : Int) := by
  rw [IntWalk.i64_in _ (by omega)]; omega
def amg (a f : Int) : Bool := decide (a ≥ f) && decide (a < f + 32) && ((a - f) % 4 == 0)
def isByte (a : Int) : Bool := amg a 1024 || amg a 1120
theorem among_ok {a f : Int} (h0 : 0 ≤ a) (h1 : a < 4294967296) (h2 : 0 ≤ f) (h3 : f < 100000) {H : AH} {K : KV} (hK : K (.bool (amg a f)) H) : DS Try.prog Fi.cells_among [.int .u32 a, .int .u32 f] H K := by
  refine use_cells_among 0 ?_
  unfold sh_cells_among
  have e1 : IntKind.u32.wrap (f + 32) = f + 32 := IntWalk.u32_in _ (by omega)
  simp only [RS, List.cons_append, List.nil_append, Option.isNone_some, Option.isNone_none, Option.isSome_some, Option.isSome_none, Nat.zero_add, Nat.add_zero, Nat.reduceAdd, List.getElem?_cons_zero, List.getElem?_cons_succ, List.length_cons, List.length_nil, List.all_cons, List.all_nil, Bool.and_self, Bool.and_true, Bool.true_and, Option.bind_some, Nat.reduceLeDiff, Nat.reduceEqDiff, Nat.le_refl, and_self, if_true, if_false, List.drop_zero, List.drop_succ_cons, List.take_zero, List.take_succ_cons, List.take_nil, List.drop_nil, true_and, and_true, decide_true, decide_false, Nat.reduceMul, Nat.zero_mul, Nat.one_mul, Nat.mul_one]
  by_cases c1 : a ≥ f
  · have d1 : decide (a ≥ f) = true := by simpa using c1
    simp only [d1, RS, List.cons_append, List.nil_append, Option.isNone_some, Option.isNone_none, Option.isSome_some, Option.isSome_none, Nat.zero_add, Nat.add_zero, Nat.reduceAdd, List.getElem?_cons_zero, List.getElem?_cons_succ, List.length_cons, List.length_nil, List.all_cons, List.all_nil, Bool.and_self, Bool.and_true, Bool.true_and, Option.bind_some, Nat.reduceLeDiff, Nat.reduceEqDiff, Nat.le_refl, and_self, if_true, if_false, List.drop_zero, List.drop_succ_cons, List.take_zero, List.take_succ_cons, List.take_nil, List.drop_nil, true_and, and_true, decide_true, decide_false, Nat.reduceMul, Nat.zero_mul, Nat.one_mul, Nat.mul_one, e1]
    by_cases c2 : a < f + 32
    · have d2 : decide (a < f + 32) = true := by simpa using c2
      have e2 : IntKind.u32.wrap (a - f) = a - f := IntWalk.u32_in _ (by omega)
      have e3 : (a - f).tmod 4 = (a - f) % 4 := Int.tmod_eq_emod_of_nonneg (by omega)
      simp only [d2, RS, List.cons_append, List.nil_append, Option.isNone_some, Option.isNone_none, Option.isSome_some, Option.isSome_none, Nat.zero_add, Nat.add_zero, Nat.reduceAdd, List.getElem?_cons_zero, List.getElem?_cons_succ, List.length_cons, List.length_nil, List.all_cons, List.all_nil, Bool.and_self, Bool.and_true, Bool.true_and, Option.bind_some, Nat.reduceLeDiff, Nat.reduceEqDiff, Nat.le_refl, and_self, if_true, if_false, List.drop_zero, List.drop_succ_cons, List.take_zero, List.take_succ_cons, List.take_nil, List.drop_nil, true_and, and_true, decide_true, decide_false, Nat.reduceMul, Nat.zero_mul, Nat.one_mul, Nat.mul_one, e2, binT_rem_int _ _ _ _ 4 (by decide), e3]
      have : amg a f = ((a - f) % 4 == 0) := by simp [amg, c1, c2]
      rw [← this]; exact hK
    · have d2 : decide (a < f + 32) = false := by simpa using c2
      simp only [d2, RS, List.cons_append, List.nil_append, Option.isNone_some, Option.isNone_none, Option.isSome_some, Option.isSome_none, Nat.zero_add, Nat.add_zero, Nat.reduceAdd, List.getElem?_cons_zero, List.getElem?_cons_succ, List.length_cons, List.length_nil, List.all_cons, List.all_nil, Bool.and_self, Bool.and_true, Bool.true_and, Option.bind_some, Nat.reduceLeDiff, Nat.reduceEqDiff, Nat.le_refl, and_self, if_true, if_false, List.drop_zero, List.drop_succ_cons, List.take_zero, List.take_succ_cons, List.take_nil, List.drop_nil, true_and, and_true, decide_true, decide_false, Nat.reduceMul, Nat.zero_mul, Nat.one_mul, Nat.mul_one]
      have : amg a f = false := by simp only [amg, d1, d2, Bool.and_false, Bool.false_and]
      rw [this] at hK; exact hK
  · have d1 : decide (a ≥ f) = false := by simpa using c1
    simp only [d1, RS, List.cons_append, List.nil_append, Option.isNone_some, Option.isNone_none, Option.isSome_some, Option.isSome_none, Nat.zero_add, Nat.add_zero, Nat.reduceAdd, List.getElem?_cons_zero, List.getElem?_cons_succ, List.length_cons, List.length_nil, List.all_cons, List.all_nil, Bool.and_self, Bool.and_true, Bool.true_and, Option.bind_some, Nat.reduceLeDiff, Nat.reduceEqDiff, Nat.le_refl, and_self, if_true, if_false, List.drop_zero, List.drop_succ_cons, List.take_zero, List.take_succ_cons, List.take_nil, List.drop_nil, true_and, and_true, decide_true, decide_false, Nat.reduceMul, Nat.zero_mul, Nat.one_mul, Nat.mul_one]
    have : amg a f = false := by simp only [amg, d1, Bool.false_and]
    rw [this] at hK; exact hK
theorem Byte_ok {a : Int} (h0 : 0 ≤ a) (h1 : a < 4294967296) {H : AH} {K : KV} (hK : K (.bool (isByte a)) H) : DS Try.prog Fi.cells_Byte [.int .u32 a] H K := by
  refine use_cells_Byte 0 ?_
  unfold sh_cells_Byte
  simp only [RS, List.cons_append, List.nil_append, Option.isNone_some, Option.isNone_none, Option.isSome_some, Option.isSome_none, Nat.zero_add, Nat.add_zero, Nat.reduceAdd, List.getElem?_cons_zero, List.getElem?_cons_succ, List.length_cons, List.length_nil, List.all_cons, List.all_nil, Bool.and_self, Bool.and_true, Bool.true_and, Option.bind_some, Nat.reduceLeDiff, Nat.reduceEqDiff, Nat.le_refl, and_self, if_true, if_false, List.drop_zero, List.drop_succ_cons, List.take_zero, List.take_succ_cons, List.take_nil, List.drop_nil, true_and, and_true, decide_true, decide_false, Nat.reduceMul, Nat.zero_mul, Nat.one_mul, Nat.mul_one]
  refine among_ok h0 h1 (by decide) (by decide) ?_
  cases hb : amg a 1024 with
  | true =>
    simp only [RS, List.cons_append, List.nil_append, Option.isNone_some, Option.isNone_none, Option.isSome_some, Option.isSome_none, Nat.zero_add, Nat.add_zero, Nat.reduceAdd, List.getElem?_cons_zero, List.getElem?_cons_succ, List.length_cons, List.length_nil, List.all_cons, List.all_nil, Bool.and_self, Bool.and_true, Bool.true_and, Option.bind_some, Nat.reduceLeDiff, Nat.reduceEqDiff, Nat.le_refl, and_self, if_true, if_false, List.drop_zero, List.drop_succ_cons, List.take_zero, List.take_succ_cons, List.take_nil, List.drop_nil, true_and, and_true, decide_true, decide_false, Nat.reduceMul, Nat.zero_mul, Nat.one_mul, Nat.mul_one]
    have : isByte a = true := by simp [isByte, hb]
    rw [this] at hK; exact hK
  | false =>
    simp only [RS, List.cons_append, List.nil_append, Option.isNone_some, Option.isNone_none, Option.isSome_some, Option.isSome_none, Nat.zero_add, Nat.add_zero, Nat.reduceAdd, List.getElem?_cons_zero, List.getElem?_cons_succ, List.length_cons, List.length_nil, List.all_cons, List.all_nil, Bool.and_self, Bool.and_true, Bool.true_and, Option.bind_some, Nat.reduceLeDiff, Nat.reduceEqDiff, Nat.le_refl, and_self, if_true, if_false, List.drop_zero, List.drop_succ_cons, List.take_zero, List.take_succ_cons, List.take_nil, List.drop_nil, true_and, and_true, decide_true, decide_false, Nat.reduceMul, Nat.zero_mul, Nat.one_mul, Nat.mul_one]
    refine among_ok h0 h1 (by decide) (by decide) ?_
    have : isByte a = amg a 1120 := by simp [isByte, hb]
    rw [this] at hK; exact hK

structure CS where
  f : Int → Int
  count : Int
  kind : Int
  addr : Int
  was : Int
  is : Int
def CS.hd (s : CS) (m : Value) : AObj := .cells [m, .int .i64 s.count, .int .u8 s.kind, .int .u32 s.addr, .int .u64 s.was, .int .u64 s.is] Ty.cells_Cells .fix
structure CW where
  m : Nat
  l : IL
  es : List MapEntry
  clk : Nat
def vOf (x : Int) : Option Value := if x = 0 then none else some (.int .u64 x)
def layC (c : Nat) (s : CS) : Option CW → List (Nat × AObj)
  | none => [(c, s.hd (.map none))]
  | some w => [(c, s.hd (.map (some w.m))), (w.m, .map w.es w.clk)]
def okC' (s : CS) : Option CW → Prop
  | none => ∀ k, s.f k = 0
  | some w => MapRep .u32 w.l w.es w.clk ∧ ∀ k, lookI w.l k = vOf (s.f k)
def byteOf (a x : Int) : Int := if isByte a = true then x % 256 else x
/-- What cells can hold. -/
def rngF (f : Int → Int) : Prop := ∀ k, 0 ≤ f k ∧ f k < 18446744073709551616 ∧ byteOf k (f k) = f k
def CellsP (c : Nat) (s : CS) : SL := obj (layC c s) fun q => okC' s q ∧ rngF s.f
theorem byteOf_in {a x : Int} (h0 : 0 ≤ x) (h1 : x < 18446744073709551616) : 0 ≤ byteOf a x ∧ byteOf a x < 18446744073709551616 ∧ byteOf a (byteOf a x) = byteOf a x := by
  unfold byteOf; split <;> omega
theorem rngF_upd {f : Int → Int} (h : rngF f) (a : Int) {x : Int} (h0 : 0 ≤ x) (h1 : x < 18446744073709551616) : rngF (upd f a (byteOf a x)) := by
  intro k
  unfold upd
  by_cases hk : k = a
  · subst hk; simp only [if_true]; exact byteOf_in h0 h1
  · simp only [hk, if_false]; exact h k
def CS.acc (s : CS) (k a is : Int) : CS :=
  { f := upd s.f a (byteOf a is), count := IntKind.i64.wrap (s.count + 1), kind := k, addr := a, was := s.f a, is := byteOf a is }
theorem lkV_vOf (x : Int) : lkV (.int .u64 0) false (vOf x) = .int .u64 x := by
  unfold vOf; split
  · rename_i h; rw [h]; rfl
  · rfl

theorem CellsP.rng {c : Nat} {s : CS} {H : AH} {F : SL} (hs : sat H (CellsP c s * F)) : rngF s.f := by
  obtain ⟨q, hq, hp⟩ := sat_obj.1 hs
  exact hq.2
theorem CellsP.peek {c : Nat} {s : CS} {H : AH} {F : SL} (hs : sat H (CellsP c s * F)) : ∃ mv, H.get c = some (s.hd mv) ∧ c < H.nx ∧ ∀ a, lkT (.int .u32) (.int .u64 0) false mv (.int .u32 a) H = some (.int .u64 (s.f a)) := by
  obtain ⟨q, ⟨hq, -⟩, hp⟩ := sat_obj.1 hs
  obtain ⟨hnd, hg⟩ := sat_ptsL hp
  cases q with
  | none =>
    have g1 := hg (c, s.hd (.map none)) (by simp [layC])
    exact ⟨_, g1.1, g1.2, fun a => by rw [lkT_none, hq a]⟩
  | some w =>
    have g1 := hg (c, s.hd (.map (some w.m))) (by simp [layC])
    have g2 := hg (w.m, .map w.es w.clk) (by simp [layC])
    exact ⟨_, g1.1, g1.2, fun a => by rw [lkT_some, g2.1, hq.1.lk, hq.2, lkV_vOf]⟩
theorem access_ok {c : Nat} {s : CS} {k a is : Int} {fn : Value} {H : AH} {K : KV} {F F' : SL} (h0 : 0 ≤ a) (h1 : a < 4294967296) (hi : 0 ≤ is) (hi' : is < 18446744073709551616)
    (hs : sat H (CellsP c s * F)) (hthen : ∀ K' : KV, (∀ H1, sat H1 (CellsP c s * F') → K' (.int .u64 is) H1) → callV (DS Try.prog) fn [.int .u64 (s.f a)] H K')
    (hK : ∀ H', sat H' (CellsP c (s.acc k a is) * F') → K (.int .u64 (s.f a)) H') : DS Try.prog Fi.cells_Cells_access [.pointer (some ⟨c, 0, none⟩), .int .u8 k, .int .u32 a, fn] H K := by
  refine use_cells_Cells_access 0 ?_
  unfold sh_cells_Cells_access
  obtain ⟨mv, g1, -, hl⟩ := CellsP.peek hs
  simp only [RS, List.cons_append, List.nil_append, Option.isNone_some, Option.isNone_none, Option.isSome_some, Option.isSome_none, Nat.zero_add, Nat.add_zero, Nat.reduceAdd, List.getElem?_cons_zero, List.getElem?_cons_succ, List.length_cons, List.length_nil, List.all_cons, List.all_nil, Bool.and_self, Bool.and_true, Bool.true_and, Option.bind_some, Nat.reduceLeDiff, Nat.reduceEqDiff, Nat.le_refl, and_self, if_true, if_false, List.drop_zero, List.drop_succ_cons, List.take_zero, List.take_succ_cons, List.take_nil, List.drop_nil, true_and, and_true, decide_true, decide_false, Nat.reduceMul, Nat.zero_mul, Nat.one_mul, Nat.mul_one, g1, CS.hd, hl]
  refine hthen _ fun H1 hs1 => ?_
  clear hthen hl g1
  refine jn_rule (fun t H' => H' = H1 ∧ t = (.pointer (some ⟨c, 0, none⟩), .int .u8 k, .int .u32 a, .int .u64 (s.f a), .int .u64 (byteOf a is), ())) ?_ ?_
  · rintro t H' ⟨rfl, rfl⟩
    obtain ⟨q, ⟨hq, hrg⟩, hp⟩ := sat_obj.1 hs1
    have hrg' : rngF (s.acc k a is).f := rngF_upd hrg a hi hi'
    obtain ⟨hnd, hg⟩ := sat_ptsL hp
    have hz : binT BinOp.eql (some (EqD.one EK.int)) true (.int .u64 (byteOf a is)) (.int .u64 0) = some (.bool (byteOf a is == 0)) := binT_eql_int _ _ _ _ _
    cases q with
    | none =>
      have g1 := hg (c, s.hd (.map none)) (by simp [layC])
      have hcn : c ≠ H'.nx := Nat.ne_of_lt g1.2
      obtain ⟨l2, es2, clk2, m1, m2, m3, m4⟩ := MapRep.empty.mu (kk := .u32) a (.int .u64 (byteOf a is))
      simp only [RS, List.cons_append, List.nil_append, Option.isNone_some, Option.isNone_none, Option.isSome_some, Option.isSome_none, Nat.zero_add, Nat.add_zero, Nat.reduceAdd, List.getElem?_cons_zero, List.getElem?_cons_succ, List.length_cons, List.length_nil, List.all_cons, List.all_nil, Bool.and_self, Bool.and_true, Bool.true_and, Option.bind_some, Nat.reduceLeDiff, Nat.reduceEqDiff, Nat.le_refl, and_self, if_true, if_false, List.drop_zero, List.drop_succ_cons, List.take_zero, List.take_succ_cons, List.take_nil, List.drop_nil, true_and, and_true, decide_true, decide_false, Nat.reduceMul, Nat.zero_mul, Nat.one_mul, Nat.mul_one, g1.1, CS.hd, jn, hz, get_put_eq, get_put_ne, get_new_eq, get_new_ne, ne_eq, hcn, hcn.symm, not_false_eq_true, m1]
      by_cases hz0 : byteOf a is = 0
      · have hb0 : (byteOf a is == 0) = true := by simpa using hz0
        simp only [hb0, RS, List.cons_append, List.nil_append, Option.isNone_some, Option.isNone_none, Option.isSome_some, Option.isSome_none, Nat.zero_add, Nat.add_zero, Nat.reduceAdd, List.getElem?_cons_zero, List.getElem?_cons_succ, List.length_cons, List.length_nil, List.all_cons, List.all_nil, Bool.and_self, Bool.and_true, Bool.true_and, Option.bind_some, Nat.reduceLeDiff, Nat.reduceEqDiff, Nat.le_refl, and_self, if_true, if_false, List.drop_zero, List.drop_succ_cons, List.take_zero, List.take_succ_cons, List.take_nil, List.drop_nil, true_and, and_true, decide_true, decide_false, Nat.reduceMul, Nat.zero_mul, Nat.one_mul, Nat.mul_one]
        refine hK _ (sat_obj.2 ⟨none, ⟨fun k' => ?_, hrg'⟩, ?_⟩)
        · show upd s.f a (byteOf a is) k' = 0
          unfold upd; split
          · exact hz0
          · exact hq k'
        · refine sat_upd hp (by simp) (fun n hn hne => ?_) (fun p hp' => ?_) (by simp [layC])
          · simp [layC] at hne
            simp [AH.get_put, hne]
          · simp [layC] at hp'; subst hp'
            simp [AH.get_put, CS.hd, CS.acc, hz0, layC]; exact g1.2
      · have hb0 : (byteOf a is == 0) = false := by simpa using hz0
        simp only [hb0, RS, List.cons_append, List.nil_append, Option.isNone_some, Option.isNone_none, Option.isSome_some, Option.isSome_none, Nat.zero_add, Nat.add_zero, Nat.reduceAdd, List.getElem?_cons_zero, List.getElem?_cons_succ, List.length_cons, List.length_nil, List.all_cons, List.all_nil, Bool.and_self, Bool.and_true, Bool.true_and, Option.bind_some, Nat.reduceLeDiff, Nat.reduceEqDiff, Nat.le_refl, and_self, if_true, if_false, List.drop_zero, List.drop_succ_cons, List.take_zero, List.take_succ_cons, List.take_nil, List.drop_nil, true_and, and_true, decide_true, decide_false, Nat.reduceMul, Nat.zero_mul, Nat.one_mul, Nat.mul_one]
        refine hK _ (sat_obj.2 ⟨some ⟨H'.nx, l2, es2, clk2⟩, ⟨⟨m2, fun k' => ?_⟩, hrg'⟩, ?_⟩)
        · rw [m3]
          show _ = vOf (upd s.f a (byteOf a is) k')
          unfold upd
          by_cases hk : k' = a
          · simp [hk, vOf, hz0]
          · simp [hk, vOf, hq k', lookI]
        · refine sat_upd hp (by simp) (fun n hn hne => ?_) (fun p hp' => ?_) (by simp [layC, hcn])
          · simp [layC] at hne
            have : n ≠ H'.nx := Nat.ne_of_lt hn
            simp [AH.get_put, AH.get_new, hne, this]
          · have := g1.2
            simp [layC] at hp'
            rcases hp' with rfl | rfl
            · simp [AH.get_put, AH.get_new, CS.hd, CS.acc, layC]; omega
            · simp [AH.get_put, AH.get_new, layC, hcn.symm]
    | some w =>
      obtain ⟨hm, hl⟩ := hq
      have g1 := hg (c, s.hd (.map (some w.m))) (by simp [layC])
      have g2 := hg (w.m, .map w.es w.clk) (by simp [layC])
      have hcm : c ≠ w.m := by simpa [layC] using hnd
      obtain ⟨l2, es2, clk2, m1, m2, m3, m4⟩ := hm.mu a (.int .u64 (byteOf a is))
      obtain ⟨l3, es3, d1, d2, d3, d4⟩ := hm.del a
      simp only [RS, List.cons_append, List.nil_append, Option.isNone_some, Option.isNone_none, Option.isSome_some, Option.isSome_none, Nat.zero_add, Nat.add_zero, Nat.reduceAdd, List.getElem?_cons_zero, List.getElem?_cons_succ, List.length_cons, List.length_nil, List.all_cons, List.all_nil, Bool.and_self, Bool.and_true, Bool.true_and, Option.bind_some, Nat.reduceLeDiff, Nat.reduceEqDiff, Nat.le_refl, and_self, if_true, if_false, List.drop_zero, List.drop_succ_cons, List.take_zero, List.take_succ_cons, List.take_nil, List.drop_nil, true_and, and_true, decide_true, decide_false, Nat.reduceMul, Nat.zero_mul, Nat.one_mul, Nat.mul_one, g1.1, g2.1, CS.hd, jn, hz, get_put_eq, get_put_ne, get_new_eq, get_new_ne, ne_eq, hcm, hcm.symm, not_false_eq_true, m1, d1]
      by_cases hz0 : byteOf a is = 0
      · have hb0 : (byteOf a is == 0) = true := by simpa using hz0
        simp only [hb0, RS, List.cons_append, List.nil_append, Option.isNone_some, Option.isNone_none, Option.isSome_some, Option.isSome_none, Nat.zero_add, Nat.add_zero, Nat.reduceAdd, List.getElem?_cons_zero, List.getElem?_cons_succ, List.length_cons, List.length_nil, List.all_cons, List.all_nil, Bool.and_self, Bool.and_true, Bool.true_and, Option.bind_some, Nat.reduceLeDiff, Nat.reduceEqDiff, Nat.le_refl, and_self, if_true, if_false, List.drop_zero, List.drop_succ_cons, List.take_zero, List.take_succ_cons, List.take_nil, List.drop_nil, true_and, and_true, decide_true, decide_false, Nat.reduceMul, Nat.zero_mul, Nat.one_mul, Nat.mul_one, g1.1, g2.1, get_put_eq, get_put_ne, get_new_eq, get_new_ne, ne_eq, hcm, hcm.symm, not_false_eq_true, d1]
        refine hK _ (sat_obj.2 ⟨some ⟨w.m, l3, es3, w.clk⟩, ⟨⟨d2, fun k' => ?_⟩, hrg'⟩, ?_⟩)
        · rw [d3]
          show _ = vOf (upd s.f a (byteOf a is) k')
          unfold upd
          by_cases hk : k' = a
          · simp [hk, vOf, hz0]
          · simp only [hk, if_false]; exact hl k'
        · refine sat_upd hp (by simp) (fun n hn hne => ?_) (fun p hp' => ?_) (by simp [layC, hcm])
          · simp [layC] at hne
            simp [AH.get_put, hne]
          · have := g1.2
            have := g2.2
            simp [layC] at hp'
            rcases hp' with rfl | rfl
            · simp [AH.get_put, CS.hd, CS.acc, layC, hz0]; omega
            · simp [AH.get_put, layC, hcm.symm]; omega
      · have hb0 : (byteOf a is == 0) = false := by simpa using hz0
        simp only [hb0, RS, List.cons_append, List.nil_append, Option.isNone_some, Option.isNone_none, Option.isSome_some, Option.isSome_none, Nat.zero_add, Nat.add_zero, Nat.reduceAdd, List.getElem?_cons_zero, List.getElem?_cons_succ, List.length_cons, List.length_nil, List.all_cons, List.all_nil, Bool.and_self, Bool.and_true, Bool.true_and, Option.bind_some, Nat.reduceLeDiff, Nat.reduceEqDiff, Nat.le_refl, and_self, if_true, if_false, List.drop_zero, List.drop_succ_cons, List.take_zero, List.take_succ_cons, List.take_nil, List.drop_nil, true_and, and_true, decide_true, decide_false, Nat.reduceMul, Nat.zero_mul, Nat.one_mul, Nat.mul_one, g1.1, g2.1, get_put_eq, get_put_ne, get_new_eq, get_new_ne, ne_eq, hcm, hcm.symm, not_false_eq_true, m1]
        refine hK _ (sat_obj.2 ⟨some ⟨w.m, l2, es2, clk2⟩, ⟨⟨m2, fun k' => ?_⟩, hrg'⟩, ?_⟩)
        · rw [m3]
          show _ = vOf (upd s.f a (byteOf a is) k')
          unfold upd
          by_cases hk : k' = a
          · simp [hk, vOf, hz0]
          · simp only [hk, if_false]; exact hl k'
        · refine sat_upd hp (by simp) (fun n hn hne => ?_) (fun p hp' => ?_) (by simp [layC, hcm])
          · simp [layC] at hne
            simp [AH.get_put, hne]
          · have := g1.2
            have := g2.2
            simp [layC] at hp'
            rcases hp' with rfl | rfl
            · simp [AH.get_put, CS.hd, CS.acc, layC]; omega
            · simp [AH.get_put, layC, hcm.symm]; omega
  · intro R hR
    simp only [RS, List.cons_append, List.nil_append, Option.isNone_some, Option.isNone_none, Option.isSome_some, Option.isSome_none, Nat.zero_add, Nat.add_zero, Nat.reduceAdd, List.getElem?_cons_zero, List.getElem?_cons_succ, List.length_cons, List.length_nil, List.all_cons, List.all_nil, Bool.and_self, Bool.and_true, Bool.true_and, Option.bind_some, Nat.reduceLeDiff, Nat.reduceEqDiff, Nat.le_refl, and_self, if_true, if_false, List.drop_zero, List.drop_succ_cons, List.take_zero, List.take_succ_cons, List.take_nil, List.drop_nil, true_and, and_true, decide_true, decide_false, Nat.reduceMul, Nat.zero_mul, Nat.one_mul, Nat.mul_one]
    refine Byte_ok h0 h1 ?_
    cases hb : isByte a with
    | true =>
      have e1 : IntKind.u8.wrap is = is % 256 := IntKind.wrap_u8 _
      have e2 : IntKind.u64.wrap (is % 256) = is % 256 := IntWalk.u64_in _ (by omega)
      simp only [RS, List.cons_append, List.nil_append, Option.isNone_some, Option.isNone_none, Option.isSome_some, Option.isSome_none, Nat.zero_add, Nat.add_zero, Nat.reduceAdd, List.getElem?_cons_zero, List.getElem?_cons_succ, List.length_cons, List.length_nil, List.all_cons, List.all_nil, Bool.and_self, Bool.and_true, Bool.true_and, Option.bind_some, Nat.reduceLeDiff, Nat.reduceEqDiff, Nat.le_refl, and_self, if_true, if_false, List.drop_zero, List.drop_succ_cons, List.take_zero, List.take_succ_cons, List.take_nil, List.drop_nil, true_and, and_true, decide_true, decide_false, Nat.reduceMul, Nat.zero_mul, Nat.one_mul, Nat.mul_one, e1, e2]
      exact hR _ _ ⟨rfl, by simp [byteOf, hb]⟩
    | false =>
      simp only [RS, List.cons_append, List.nil_append, Option.isNone_some, Option.isNone_none, Option.isSome_some, Option.isSome_none, Nat.zero_add, Nat.add_zero, Nat.reduceAdd, List.getElem?_cons_zero, List.getElem?_cons_succ, List.length_cons, List.length_nil, List.all_cons, List.all_nil, Bool.and_self, Bool.and_true, Bool.true_and, Option.bind_some, Nat.reduceLeDiff, Nat.reduceEqDiff, Nat.le_refl, and_self, if_true, if_false, List.drop_zero, List.drop_succ_cons, List.take_zero, List.take_succ_cons, List.take_nil, List.drop_nil, true_and, and_true, decide_true, decide_false, Nat.reduceMul, Nat.zero_mul, Nat.one_mul, Nat.mul_one]
      exact hR _ _ ⟨rfl, by simp [byteOf, hb]⟩

/-! ### the accesses -/
abbrev ptr (c : Nat) : Value := .pointer (some ⟨c, 0, none⟩)
theorem Peek_ok {c : Nat} {s : CS} {a : Int} {H : AH} {K : KV} {F : SL} (hs : sat H (CellsP c s * F)) (hK : K (.int .u64 (s.f a)) H) : DS Try.prog Fi.cells_Cells_Peek [ptr c, .int .u32 a] H K := by
  refine use_cells_Cells_Peek 0 ?_
  unfold sh_cells_Cells_Peek
  obtain ⟨mv, g1, -, hl⟩ := CellsP.peek hs
  simp only [RS, List.cons_append, List.nil_append, Option.isNone_some, Option.isNone_none, Option.isSome_some, Option.isSome_none, Nat.zero_add, Nat.add_zero, Nat.reduceAdd, List.getElem?_cons_zero, List.getElem?_cons_succ, List.length_cons, List.length_nil, List.all_cons, List.all_nil, Bool.and_self, Bool.and_true, Bool.true_and, Option.bind_some, Nat.reduceLeDiff, Nat.reduceEqDiff, Nat.le_refl, and_self, if_true, if_false, List.drop_zero, List.drop_succ_cons, List.take_zero, List.take_succ_cons, List.take_nil, List.drop_nil, true_and, and_true, decide_true, decide_false, Nat.reduceMul, Nat.zero_mul, Nat.one_mul, Nat.mul_one, g1, CS.hd, hl]
  exact hK
theorem Count_ok {c : Nat} {s : CS} {H : AH} {K : KV} {F : SL} (hs : sat H (CellsP c s * F)) (hK : K (.int .i64 s.count) H) : DS Try.prog Fi.cells_Cells_Count [ptr c] H K := by
  refine use_cells_Cells_Count 0 ?_
  unfold sh_cells_Cells_Count
  obtain ⟨mv, g1, -, hl⟩ := CellsP.peek hs
  simp only [RS, List.cons_append, List.nil_append, Option.isNone_some, Option.isNone_none, Option.isSome_some, Option.isSome_none, Nat.zero_add, Nat.add_zero, Nat.reduceAdd, List.getElem?_cons_zero, List.getElem?_cons_succ, List.length_cons, List.length_nil, List.all_cons, List.all_nil, Bool.and_self, Bool.and_true, Bool.true_and, Option.bind_some, Nat.reduceLeDiff, Nat.reduceEqDiff, Nat.le_refl, and_self, if_true, if_false, List.drop_zero, List.drop_succ_cons, List.take_zero, List.take_succ_cons, List.take_nil, List.drop_nil, true_and, and_true, decide_true, decide_false, Nat.reduceMul, Nat.zero_mul, Nat.one_mul, Nat.mul_one, g1, CS.hd]
  exact hK
def CS.last (s : CS) : Value := .agg ⟨[.int .u8 s.kind, .int .u32 s.addr, .int .u64 s.was, .int .u64 s.is]⟩
theorem Last_ok {c : Nat} {s : CS} {H : AH} {K : KV} {F : SL} (hs : sat H (CellsP c s * F)) (hK : ∀ H', sat H' (CellsP c s * F) → K s.last H') : DS Try.prog Fi.cells_Cells_Last [ptr c] H K := by
  refine use_cells_Cells_Last 0 ?_
  unfold sh_cells_Cells_Last
  obtain ⟨mv, g1, g2, hl⟩ := CellsP.peek hs
  have hcn : c ≠ H.nx := Nat.ne_of_lt g2
  simp only [RS, List.cons_append, List.nil_append, Option.isNone_some, Option.isNone_none, Option.isSome_some, Option.isSome_none, Nat.zero_add, Nat.add_zero, Nat.reduceAdd, List.getElem?_cons_zero, List.getElem?_cons_succ, List.length_cons, List.length_nil, List.all_cons, List.all_nil, Bool.and_self, Bool.and_true, Bool.true_and, Option.bind_some, Nat.reduceLeDiff, Nat.reduceEqDiff, Nat.le_refl, and_self, if_true, if_false, List.drop_zero, List.drop_succ_cons, List.take_zero, List.take_succ_cons, List.take_nil, List.drop_nil, true_and, and_true, decide_true, decide_false, Nat.reduceMul, Nat.zero_mul, Nat.one_mul, Nat.mul_one, get_put_eq, get_put_ne, get_new_eq, get_new_ne, ne_eq, hcn, hcn.symm, not_false_eq_true, g1, CS.hd]
  refine hK _ ?_
  exact sat_sub (sat_put _ (sat_new _ hs))
theorem w64 (n : Int) : IntKind.u64.wrap n = n % 18446744073709551616 := by simp [IntKind.wrap, IntKind.bits, IntKind.signed]
theorem itself_ok {v x : Int} {H : AH} {K : KV} (hK : K (.int .u64 v) H) : DS Try.prog Fi.cells_operand_itself [.int .u64 v, .int .u64 x] H K := by
  refine use_cells_operand_itself 0 ?_
  unfold sh_cells_operand_itself
  simp only [RS, List.cons_append, List.nil_append, Option.isNone_some, Option.isNone_none, Option.isSome_some, Option.isSome_none, Nat.zero_add, Nat.add_zero, Nat.reduceAdd, List.getElem?_cons_zero, List.getElem?_cons_succ, List.length_cons, List.length_nil, List.all_cons, List.all_nil, Bool.and_self, Bool.and_true, Bool.true_and, Option.bind_some, Nat.reduceLeDiff, Nat.reduceEqDiff, Nat.le_refl, and_self, if_true, if_false, List.drop_zero, List.drop_succ_cons, List.take_zero, List.take_succ_cons, List.take_nil, List.drop_nil, true_and, and_true, decide_true, decide_false, Nat.reduceMul, Nat.zero_mul, Nat.one_mul, Nat.mul_one]; exact hK
theorem added_ok {v x : Int} {H : AH} {K : KV} (hK : K (.int .u64 ((x + v) % 18446744073709551616)) H) : DS Try.prog Fi.cells_operand_added [.int .u64 v, .int .u64 x] H K := by
  refine use_cells_operand_added 0 ?_
  unfold sh_cells_operand_added
  simp only [RS, List.cons_append, List.nil_append, Option.isNone_some, Option.isNone_none, Option.isSome_some, Option.isSome_none, Nat.zero_add, Nat.add_zero, Nat.reduceAdd, List.getElem?_cons_zero, List.getElem?_cons_succ, List.length_cons, List.length_nil, List.all_cons, List.all_nil, Bool.and_self, Bool.and_true, Bool.true_and, Option.bind_some, Nat.reduceLeDiff, Nat.reduceEqDiff, Nat.le_refl, and_self, if_true, if_false, List.drop_zero, List.drop_succ_cons, List.take_zero, List.take_succ_cons, List.take_nil, List.drop_nil, true_and, and_true, decide_true, decide_false, Nat.reduceMul, Nat.zero_mul, Nat.one_mul, Nat.mul_one, w64]; exact hK
/-- Two words' bits, both. -/
def andI (x v : Int) : Int := ((BitVec.ofInt 64 x &&& BitVec.ofInt 64 v).toNat : Int)
def orI (x v : Int) : Int := ((BitVec.ofInt 64 x ||| BitVec.ofInt 64 v).toNat : Int)
theorem bits_in (b : BitVec 64) : 0 ≤ (b.toNat : Int) ∧ (b.toNat : Int) < 18446744073709551616 := by have := b.isLt; omega
theorem bits_wrap (b : BitVec 64) : IntKind.u64.wrap (b.toNat : Int) = b.toNat := IntWalk.u64_in _ (by have := b.isLt; omega)
theorem bits_u64 : IntKind.u64.bits = 64 := id rfl
theorem masked_ok {v x : Int} {H : AH} {K : KV} (hK : K (.int .u64 (andI x v)) H) : DS Try.prog Fi.cells_operand_masked [.int .u64 v, .int .u64 x] H K := by
  refine use_cells_operand_masked 0 ?_
  unfold sh_cells_operand_masked
  simp only [RS, List.cons_append, List.nil_append, Option.isNone_some, Option.isNone_none, Option.isSome_some, Option.isSome_none, Nat.zero_add, Nat.add_zero, Nat.reduceAdd, List.getElem?_cons_zero, List.getElem?_cons_succ, List.length_cons, List.length_nil, List.all_cons, List.all_nil, Bool.and_self, Bool.and_true, Bool.true_and, Option.bind_some, Nat.reduceLeDiff, Nat.reduceEqDiff, Nat.le_refl, and_self, if_true, if_false, List.drop_zero, List.drop_succ_cons, List.take_zero, List.take_succ_cons, List.take_nil, List.drop_nil, true_and, and_true, decide_true, decide_false, Nat.reduceMul, Nat.zero_mul, Nat.one_mul, Nat.mul_one]
  have : IntKind.u64.wrap ((BitVec.ofInt IntKind.u64.bits x &&& BitVec.ofInt IntKind.u64.bits v).toNat : Int) = andI x v := bits_wrap _
  rw [this]; exact hK
theorem joined_ok {v x : Int} {H : AH} {K : KV} (hK : K (.int .u64 (orI x v)) H) : DS Try.prog Fi.cells_operand_joined [.int .u64 v, .int .u64 x] H K := by
  refine use_cells_operand_joined 0 ?_
  unfold sh_cells_operand_joined
  simp only [RS, List.cons_append, List.nil_append, Option.isNone_some, Option.isNone_none, Option.isSome_some, Option.isSome_none, Nat.zero_add, Nat.add_zero, Nat.reduceAdd, List.getElem?_cons_zero, List.getElem?_cons_succ, List.length_cons, List.length_nil, List.all_cons, List.all_nil, Bool.and_self, Bool.and_true, Bool.true_and, Option.bind_some, Nat.reduceLeDiff, Nat.reduceEqDiff, Nat.le_refl, and_self, if_true, if_false, List.drop_zero, List.drop_succ_cons, List.take_zero, List.take_succ_cons, List.take_nil, List.drop_nil, true_and, and_true, decide_true, decide_false, Nat.reduceMul, Nat.zero_mul, Nat.one_mul, Nat.mul_one]
  have : IntKind.u64.wrap ((BitVec.ofInt IntKind.u64.bits x ||| BitVec.ofInt IntKind.u64.bits v).toNat : Int) = orI x v := bits_wrap _
  rw [this]; exact hK
theorem orI_zero {x : Int} (h0 : 0 ≤ x) (h1 : x < 18446744073709551616) : orI x 0 = x := by
  have : (BitVec.ofInt 64 0 : BitVec 64) = 0#64 := rfl
  rw [orI, this, BitVec.or_zero, BitVec.toNat_ofInt]
  omega
theorem Store_ok {c : Nat} {s : CS} {a v : Int} {H : AH} {K : KV} {F : SL} (h0 : 0 ≤ a) (h1 : a < 4294967296) (hv : 0 ≤ v) (hv' : v < 18446744073709551616) (hs : sat H (CellsP c s * F))
    (hK : ∀ H', sat H' (CellsP c (s.acc 2 a v) * F) → K (.int .u64 (s.f a)) H') : DS Try.prog Fi.cells_Cells_Store [ptr c, .int .u32 a, .int .u64 v] H K := by
  refine use_cells_Cells_Store 0 ?_
  unfold sh_cells_Cells_Store
  simp only [RS, List.cons_append, List.nil_append, Option.isNone_some, Option.isNone_none, Option.isSome_some, Option.isSome_none, Nat.zero_add, Nat.add_zero, Nat.reduceAdd, List.getElem?_cons_zero, List.getElem?_cons_succ, List.length_cons, List.length_nil, List.all_cons, List.all_nil, Bool.and_self, Bool.and_true, Bool.true_and, Option.bind_some, Nat.reduceLeDiff, Nat.reduceEqDiff, Nat.le_refl, and_self, if_true, if_false, List.drop_zero, List.drop_succ_cons, List.take_zero, List.take_succ_cons, List.take_nil, List.drop_nil, true_and, and_true, decide_true, decide_false, Nat.reduceMul, Nat.zero_mul, Nat.one_mul, Nat.mul_one]
  refine access_ok (F' := F) h0 h1 hv hv' hs (fun K' h => ?_) hK
  simp only [RS, List.cons_append, List.nil_append, Option.isNone_some, Option.isNone_none, Option.isSome_some, Option.isSome_none, Nat.zero_add, Nat.add_zero, Nat.reduceAdd, List.getElem?_cons_zero, List.getElem?_cons_succ, List.length_cons, List.length_nil, List.all_cons, List.all_nil, Bool.and_self, Bool.and_true, Bool.true_and, Option.bind_some, Nat.reduceLeDiff, Nat.reduceEqDiff, Nat.le_refl, and_self, if_true, if_false, List.drop_zero, List.drop_succ_cons, List.take_zero, List.take_succ_cons, List.take_nil, List.drop_nil, true_and, and_true, decide_true, decide_false, Nat.reduceMul, Nat.zero_mul, Nat.one_mul, Nat.mul_one]
  exact itself_ok (h _ hs)
theorem Swap_ok {c : Nat} {s : CS} {a v : Int} {H : AH} {K : KV} {F : SL} (h0 : 0 ≤ a) (h1 : a < 4294967296) (hv : 0 ≤ v) (hv' : v < 18446744073709551616) (hs : sat H (CellsP c s * F))
    (hK : ∀ H', sat H' (CellsP c (s.acc 4 a v) * F) → K (.int .u64 (s.f a)) H') : DS Try.prog Fi.cells_Cells_Swap [ptr c, .int .u32 a, .int .u64 v] H K := by
  refine use_cells_Cells_Swap 0 ?_
  unfold sh_cells_Cells_Swap
  simp only [RS, List.cons_append, List.nil_append, Option.isNone_some, Option.isNone_none, Option.isSome_some, Option.isSome_none, Nat.zero_add, Nat.add_zero, Nat.reduceAdd, List.getElem?_cons_zero, List.getElem?_cons_succ, List.length_cons, List.length_nil, List.all_cons, List.all_nil, Bool.and_self, Bool.and_true, Bool.true_and, Option.bind_some, Nat.reduceLeDiff, Nat.reduceEqDiff, Nat.le_refl, and_self, if_true, if_false, List.drop_zero, List.drop_succ_cons, List.take_zero, List.take_succ_cons, List.take_nil, List.drop_nil, true_and, and_true, decide_true, decide_false, Nat.reduceMul, Nat.zero_mul, Nat.one_mul, Nat.mul_one]
  refine access_ok (F' := F) h0 h1 hv hv' hs (fun K' h => ?_) hK
  simp only [RS, List.cons_append, List.nil_append, Option.isNone_some, Option.isNone_none, Option.isSome_some, Option.isSome_none, Nat.zero_add, Nat.add_zero, Nat.reduceAdd, List.getElem?_cons_zero, List.getElem?_cons_succ, List.length_cons, List.length_nil, List.all_cons, List.all_nil, Bool.and_self, Bool.and_true, Bool.true_and, Option.bind_some, Nat.reduceLeDiff, Nat.reduceEqDiff, Nat.le_refl, and_self, if_true, if_false, List.drop_zero, List.drop_succ_cons, List.take_zero, List.take_succ_cons, List.take_nil, List.drop_nil, true_and, and_true, decide_true, decide_false, Nat.reduceMul, Nat.zero_mul, Nat.one_mul, Nat.mul_one]
  exact itself_ok (h _ hs)
theorem Load_ok {c : Nat} {s : CS} {a : Int} {H : AH} {K : KV} {F : SL} (h0 : 0 ≤ a) (h1 : a < 4294967296) (hs : sat H (CellsP c s * F))
    (hK : ∀ H', sat H' (CellsP c (s.acc 1 a (s.f a)) * F) → K (.int .u64 (s.f a)) H') : DS Try.prog Fi.cells_Cells_Load [ptr c, .int .u32 a] H K := by
  refine use_cells_Cells_Load 0 ?_
  unfold sh_cells_Cells_Load
  simp only [RS, List.cons_append, List.nil_append, Option.isNone_some, Option.isNone_none, Option.isSome_some, Option.isSome_none, Nat.zero_add, Nat.add_zero, Nat.reduceAdd, List.getElem?_cons_zero, List.getElem?_cons_succ, List.length_cons, List.length_nil, List.all_cons, List.all_nil, Bool.and_self, Bool.and_true, Bool.true_and, Option.bind_some, Nat.reduceLeDiff, Nat.reduceEqDiff, Nat.le_refl, and_self, if_true, if_false, List.drop_zero, List.drop_succ_cons, List.take_zero, List.take_succ_cons, List.take_nil, List.drop_nil, true_and, and_true, decide_true, decide_false, Nat.reduceMul, Nat.zero_mul, Nat.one_mul, Nat.mul_one]
  have hr := CellsP.rng hs a
  refine access_ok (F' := F) h0 h1 hr.1 hr.2.1 hs (fun K' h => ?_) hK
  simp only [RS, List.cons_append, List.nil_append, Option.isNone_some, Option.isNone_none, Option.isSome_some, Option.isSome_none, Nat.zero_add, Nat.add_zero, Nat.reduceAdd, List.getElem?_cons_zero, List.getElem?_cons_succ, List.length_cons, List.length_nil, List.all_cons, List.all_nil, Bool.and_self, Bool.and_true, Bool.true_and, Option.bind_some, Nat.reduceLeDiff, Nat.reduceEqDiff, Nat.le_refl, and_self, if_true, if_false, List.drop_zero, List.drop_succ_cons, List.take_zero, List.take_succ_cons, List.take_nil, List.drop_nil, true_and, and_true, decide_true, decide_false, Nat.reduceMul, Nat.zero_mul, Nat.one_mul, Nat.mul_one]
  exact joined_ok (by rw [orI_zero hr.1 hr.2.1]; exact h _ hs)
theorem Add_ok {c : Nat} {s : CS} {a v : Int} {H : AH} {K : KV} {F : SL} (h0 : 0 ≤ a) (h1 : a < 4294967296) (hs : sat H (CellsP c s * F))
    (hK : ∀ H', sat H' (CellsP c (s.acc 5 a ((s.f a + v) % 18446744073709551616)) * F) → K (.int .u64 (s.f a)) H') : DS Try.prog Fi.cells_Cells_Add [ptr c, .int .u32 a, .int .u64 v] H K := by
  refine use_cells_Cells_Add 0 ?_
  unfold sh_cells_Cells_Add
  simp only [RS, List.cons_append, List.nil_append, Option.isNone_some, Option.isNone_none, Option.isSome_some, Option.isSome_none, Nat.zero_add, Nat.add_zero, Nat.reduceAdd, List.getElem?_cons_zero, List.getElem?_cons_succ, List.length_cons, List.length_nil, List.all_cons, List.all_nil, Bool.and_self, Bool.and_true, Bool.true_and, Option.bind_some, Nat.reduceLeDiff, Nat.reduceEqDiff, Nat.le_refl, and_self, if_true, if_false, List.drop_zero, List.drop_succ_cons, List.take_zero, List.take_succ_cons, List.take_nil, List.drop_nil, true_and, and_true, decide_true, decide_false, Nat.reduceMul, Nat.zero_mul, Nat.one_mul, Nat.mul_one]
  refine access_ok (F' := F) h0 h1 (by omega) (by omega) hs (fun K' h => ?_) hK
  simp only [RS, List.cons_append, List.nil_append, Option.isNone_some, Option.isNone_none, Option.isSome_some, Option.isSome_none, Nat.zero_add, Nat.add_zero, Nat.reduceAdd, List.getElem?_cons_zero, List.getElem?_cons_succ, List.length_cons, List.length_nil, List.all_cons, List.all_nil, Bool.and_self, Bool.and_true, Bool.true_and, Option.bind_some, Nat.reduceLeDiff, Nat.reduceEqDiff, Nat.le_refl, and_self, if_true, if_false, List.drop_zero, List.drop_succ_cons, List.take_zero, List.take_succ_cons, List.take_nil, List.drop_nil, true_and, and_true, decide_true, decide_false, Nat.reduceMul, Nat.zero_mul, Nat.one_mul, Nat.mul_one]
  exact added_ok (h _ hs)
theorem And_ok {c : Nat} {s : CS} {a v : Int} {H : AH} {K : KV} {F : SL} (h0 : 0 ≤ a) (h1 : a < 4294967296) (hs : sat H (CellsP c s * F))
    (hK : ∀ H', sat H' (CellsP c (s.acc 6 a (andI (s.f a) v)) * F) → K (.int .u64 (s.f a)) H') : DS Try.prog Fi.cells_Cells_And [ptr c, .int .u32 a, .int .u64 v] H K := by
  refine use_cells_Cells_And 0 ?_
  unfold sh_cells_Cells_And
  simp only [RS, List.cons_append, List.nil_append, Option.isNone_some, Option.isNone_none, Option.isSome_some, Option.isSome_none, Nat.zero_add, Nat.add_zero, Nat.reduceAdd, List.getElem?_cons_zero, List.getElem?_cons_succ, List.length_cons, List.length_nil, List.all_cons, List.all_nil, Bool.and_self, Bool.and_true, Bool.true_and, Option.bind_some, Nat.reduceLeDiff, Nat.reduceEqDiff, Nat.le_refl, and_self, if_true, if_false, List.drop_zero, List.drop_succ_cons, List.take_zero, List.take_succ_cons, List.take_nil, List.drop_nil, true_and, and_true, decide_true, decide_false, Nat.reduceMul, Nat.zero_mul, Nat.one_mul, Nat.mul_one]
  refine access_ok (F' := F) h0 h1 (bits_in _).1 (bits_in _).2 hs (fun K' h => ?_) hK
  simp only [RS, List.cons_append, List.nil_append, Option.isNone_some, Option.isNone_none, Option.isSome_some, Option.isSome_none, Nat.zero_add, Nat.add_zero, Nat.reduceAdd, List.getElem?_cons_zero, List.getElem?_cons_succ, List.length_cons, List.length_nil, List.all_cons, List.all_nil, Bool.and_self, Bool.and_true, Bool.true_and, Option.bind_some, Nat.reduceLeDiff, Nat.reduceEqDiff, Nat.le_refl, and_self, if_true, if_false, List.drop_zero, List.drop_succ_cons, List.take_zero, List.take_succ_cons, List.take_nil, List.drop_nil, true_and, and_true, decide_true, decide_false, Nat.reduceMul, Nat.zero_mul, Nat.one_mul, Nat.mul_one]
  exact masked_ok (h _ hs)
theorem Or_ok {c : Nat} {s : CS} {a v : Int} {H : AH} {K : KV} {F : SL} (h0 : 0 ≤ a) (h1 : a < 4294967296) (hs : sat H (CellsP c s * F))
    (hK : ∀ H', sat H' (CellsP c (s.acc 7 a (orI (s.f a) v)) * F) → K (.int .u64 (s.f a)) H') : DS Try.prog Fi.cells_Cells_Or [ptr c, .int .u32 a, .int .u64 v] H K := by
  refine use_cells_Cells_Or 0 ?_
  unfold sh_cells_Cells_Or
  simp only [RS, List.cons_append, List.nil_append, Option.isNone_some, Option.isNone_none, Option.isSome_some, Option.isSome_none, Nat.zero_add, Nat.add_zero, Nat.reduceAdd, List.getElem?_cons_zero, List.getElem?_cons_succ, List.length_cons, List.length_nil, List.all_cons, List.all_nil, Bool.and_self, Bool.and_true, Bool.true_and, Option.bind_some, Nat.reduceLeDiff, Nat.reduceEqDiff, Nat.le_refl, and_self, if_true, if_false, List.drop_zero, List.drop_succ_cons, List.take_zero, List.take_succ_cons, List.take_nil, List.drop_nil, true_and, and_true, decide_true, decide_false, Nat.reduceMul, Nat.zero_mul, Nat.one_mul, Nat.mul_one]
  refine access_ok (F' := F) h0 h1 (bits_in _).1 (bits_in _).2 hs (fun K' h => ?_) hK
  simp only [RS, List.cons_append, List.nil_append, Option.isNone_some, Option.isNone_none, Option.isSome_some, Option.isSome_none, Nat.zero_add, Nat.add_zero, Nat.reduceAdd, List.getElem?_cons_zero, List.getElem?_cons_succ, List.length_cons, List.length_nil, List.all_cons, List.all_nil, Bool.and_self, Bool.and_true, Bool.true_and, Option.bind_some, Nat.reduceLeDiff, Nat.reduceEqDiff, Nat.le_refl, and_self, if_true, if_false, List.drop_zero, List.drop_succ_cons, List.take_zero, List.take_succ_cons, List.take_nil, List.drop_nil, true_and, and_true, decide_true, decide_false, Nat.reduceMul, Nat.zero_mul, Nat.one_mul, Nat.mul_one]
  exact joined_ok (h _ hs)
theorem CAS1_ok {was is x : Int} {b : Bool} {n1 n2 n3 : Nat} {T1 T2 T3 : TypeId} {H : AH} {K : KV} {F : SL}
    (hs : sat H (ptsL [(n1, .cells [.int .u64 was] T1 .fix), (n2, .cells [.bool b] T2 .fix), (n3, .cells [.int .u64 is] T3 .fix)] * F))
    (hK : ∀ H', sat H' (ptsL [(n1, .cells [.int .u64 was] T1 .fix), (n2, .cells [.bool (x == was)] T2 .fix), (n3, .cells [.int .u64 is] T3 .fix)] * F) → K (.int .u64 (if x = was then is else x)) H') :
    DS Try.prog Fi.cells_Cells_CAS_1 [.int .u64 x, ptr n1, ptr n2, ptr n3] H K := by
  refine use_cells_Cells_CAS_1 0 ?_
  unfold sh_cells_Cells_CAS_1
  obtain ⟨hnd, hg⟩ := sat_ptsL hs
  have g1 := hg (n1, .cells [.int .u64 was] T1 .fix) (by simp)
  have g2 := hg (n2, .cells [.bool b] T2 .fix) (by simp)
  have g3 := hg (n3, .cells [.int .u64 is] T3 .fix) (by simp)
  simp at hnd
  obtain ⟨⟨n12, n13⟩, n23⟩ := hnd
  simp only [RS, List.cons_append, List.nil_append, Option.isNone_some, Option.isNone_none, Option.isSome_some, Option.isSome_none, Nat.zero_add, Nat.add_zero, Nat.reduceAdd, List.getElem?_cons_zero, List.getElem?_cons_succ, List.length_cons, List.length_nil, List.all_cons, List.all_nil, Bool.and_self, Bool.and_true, Bool.true_and, Option.bind_some, Nat.reduceLeDiff, Nat.reduceEqDiff, Nat.le_refl, and_self, if_true, if_false, List.drop_zero, List.drop_succ_cons, List.take_zero, List.take_succ_cons, List.take_nil, List.drop_nil, true_and, and_true, decide_true, decide_false, Nat.reduceMul, Nat.zero_mul, Nat.one_mul, Nat.mul_one, get_put_eq, get_put_ne, get_new_eq, get_new_ne, g1.1, g2.1, g3.1, ne_eq, Ne.symm n23, not_false_eq_true]
  have hfin : sat (H.put n2 (.cells [.bool (x == was)] T2 .fix)) (ptsL [(n1, .cells [.int .u64 was] T1 .fix), (n2, .cells [.bool (x == was)] T2 .fix), (n3, .cells [.int .u64 is] T3 .fix)] * F) := by
    refine sat_upd hs (by simp) (fun n hn hne => ?_) (fun p hp' => ?_) (by simp [n12, n13, n23])
    · simp at hne
      simp [AH.get_put, hne]
    · simp at hp'
      rcases hp' with rfl | rfl | rfl
      · simp [AH.get_put, g1.1, g1.2, n12]
      · simp [AH.get_put, g2.2]
      · simp [AH.get_put, g3.1, g3.2, Ne.symm n23]
  by_cases hx : x = was
  · have e : (x == was) = true := by simpa using hx
    simp only [e, RS, List.cons_append, List.nil_append, Option.isNone_some, Option.isNone_none, Option.isSome_some, Option.isSome_none, Nat.zero_add, Nat.add_zero, Nat.reduceAdd, List.getElem?_cons_zero, List.getElem?_cons_succ, List.length_cons, List.length_nil, List.all_cons, List.all_nil, Bool.and_self, Bool.and_true, Bool.true_and, Option.bind_some, Nat.reduceLeDiff, Nat.reduceEqDiff, Nat.le_refl, and_self, if_true, if_false, List.drop_zero, List.drop_succ_cons, List.take_zero, List.take_succ_cons, List.take_nil, List.drop_nil, true_and, and_true, decide_true, decide_false, Nat.reduceMul, Nat.zero_mul, Nat.one_mul, Nat.mul_one]
    rw [e] at hfin
    have := hK _ (by rw [e]; exact hfin)
    rw [if_pos hx] at this; exact this
  · have e : (x == was) = false := by simpa using hx
    simp only [e, RS, List.cons_append, List.nil_append, Option.isNone_some, Option.isNone_none, Option.isSome_some, Option.isSome_none, Nat.zero_add, Nat.add_zero, Nat.reduceAdd, List.getElem?_cons_zero, List.getElem?_cons_succ, List.length_cons, List.length_nil, List.all_cons, List.all_nil, Bool.and_self, Bool.and_true, Bool.true_and, Option.bind_some, Nat.reduceLeDiff, Nat.reduceEqDiff, Nat.le_refl, and_self, if_true, if_false, List.drop_zero, List.drop_succ_cons, List.take_zero, List.take_succ_cons, List.take_nil, List.drop_nil, true_and, and_true, decide_true, decide_false, Nat.reduceMul, Nat.zero_mul, Nat.one_mul, Nat.mul_one]
    rw [e] at hfin
    have := hK _ (by rw [e]; exact hfin)
    rw [if_neg hx] at this; exact this
end Go.Proofs.Ytiolnpeniklhiaa
