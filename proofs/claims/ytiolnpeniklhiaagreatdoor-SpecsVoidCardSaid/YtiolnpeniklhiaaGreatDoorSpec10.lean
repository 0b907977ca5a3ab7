/- The abstract system: a note seen.
   Conditions: what stands in memory, as each states it; the names of kinds lie at the program's own variable. -/
import Derived.Test.YtiolnpeniklhiaaGreatDoorSpec9
namespace Go.Proofs.YtiolnpeniklhiaaGreatDoor
open Go Go.Ab
set_option linter.all false
set_option maxRecDepth 100000

def valid (k : Nat) : Bool := (decide (1 ≤ k) && decide (k ≤ 5)) || (decide (16 ≤ k) && decide (k ≤ 37))
def thr (t : Int) : Bool := decide (t ≥ 0) && decide (t < 64)
theorem thr_iff {t : Int} : thr t = true ↔ 0 ≤ t ∧ t < 64 := by
  unfold thr
  rw [Bool.and_eq_true, decide_eq_true_iff, decide_eq_true_iff]
/-- The names of kinds. -/
def namesL : List (List UInt8) := [[], [112, 97, 114, 107], [116, 97, 107, 101], [112, 105, 99, 107], [109, 111, 118, 101], [103, 111, 110, 101], [], [], [], [], [], [], [], [], [], [], [108, 111, 99, 107], [102, 114, 101, 101], [104, 97, 110, 100], [98, 117, 115, 121], [108, 97, 116, 101], [114, 101, 97, 100], [117, 112, 103, 114], [99, 108, 97, 105, 109], [119, 114, 105, 116, 101], [117, 110, 114, 101, 97, 100], [117, 110, 117, 112, 103, 114], [117, 110, 99, 108, 97, 105, 109], [117, 110, 119, 114, 105, 116, 101], [119, 97, 105, 116], [119, 97, 107, 101], [103, 105, 118, 101], [110, 111, 98, 111, 100, 121], [98, 101, 103, 105, 110], [101, 110, 100], [102, 97, 105, 108], [100, 111, 110, 101], [115, 105, 99, 107]]
def namesC : List Value := namesL.map fun s => .string ⟨⟨s⟩⟩
/-- The names, where the program's own variable lies. -/
def NM : SL := ex fun T : Nat => pts 0 (.cells namesC T .ro)
theorem sat_NM {H : AH} {F : SL} : sat H (NM * F) ↔ ∃ T, sat H (pts 0 (.cells namesC T .ro) * F) := by
  unfold NM
  rw [sat_exS]
theorem names_valid : ∀ k, k < 38 → ((namesL[k]?.getD []) == []) = !valid k := by decide
section
variable {H : AH} {F : SL} {K : KV}
theorem threaded_ok {t : Int} (hK : K (.bool (thr t)) H) : DS Tryz.prog Fi.specs_threaded [.int .i64 t] H K := by
  refine use_specs_threaded 0 ?_
  unfold sh_specs_threaded
  simp only [RS, List.cons_append, List.nil_append, Option.isNone_some, Option.isNone_none, Option.isSome_some, Option.isSome_none, Nat.zero_add, Nat.add_zero, Nat.reduceAdd, List.getElem?_cons_zero, List.getElem?_cons_succ, List.length_cons, List.length_nil, List.all_cons, List.all_nil, Bool.and_self, Bool.and_true, Bool.true_and, Option.bind_some, Nat.reduceLeDiff, Nat.reduceEqDiff, Nat.le_refl, and_self, if_true, if_false, List.drop_zero, List.drop_succ_cons, List.take_zero, List.take_succ_cons, List.take_nil, List.drop_nil, true_and, and_true, decide_true, decide_false, Nat.reduceMul, Nat.zero_mul, Nat.one_mul, Nat.mul_one]
  unfold thr at hK
  cases h : decide (t ≥ 0) <;> rw [h] at hK <;> (try simp only [RS, List.cons_append, List.nil_append, Option.isNone_some, Option.isNone_none, Option.isSome_some, Option.isSome_none, Nat.zero_add, Nat.add_zero, Nat.reduceAdd, List.getElem?_cons_zero, List.getElem?_cons_succ, List.length_cons, List.length_nil, List.all_cons, List.all_nil, Bool.and_self, Bool.and_true, Bool.true_and, Option.bind_some, Nat.reduceLeDiff, Nat.reduceEqDiff, Nat.le_refl, and_self, if_true, if_false, List.drop_zero, List.drop_succ_cons, List.take_zero, List.take_succ_cons, List.take_nil, List.drop_nil, true_and, and_true, decide_true, decide_false, Nat.reduceMul, Nat.zero_mul, Nat.one_mul, Nat.mul_one]) <;> exact hK
theorem others_ok {n : NV} (hK : K (.bool n.oth) H) : DS Tryz.prog Fi.specs_others [.int .u8 n.kind] H K := by
  refine use_specs_others 0 ?_
  unfold sh_specs_others
  have e : ∀ j : Nat, ((n.kind : Int) == (j : Int)) = (n.kind == j) := fun j => by
    by_cases h : n.kind = j
    · rw [h]; rw [beq_self_eq_true, beq_self_eq_true]
    · have : ¬ ((n.kind : Int) = (j : Int)) := by omega
      rw [beq_eq_false_iff_ne.2 h, beq_eq_false_iff_ne.2 this]
  have e2 : ((n.kind : Int) == 2) = (n.kind == 2) := e 2
  have e3 : ((n.kind : Int) == 3) = (n.kind == 3) := e 3
  have e4 : ((n.kind : Int) == 4) = (n.kind == 4) := e 4
  have e18 : ((n.kind : Int) == 18) = (n.kind == 18) := e 18
  unfold NV.oth at hK
  simp only [RS, List.cons_append, List.nil_append, Option.isNone_some, Option.isNone_none, Option.isSome_some, Option.isSome_none, Nat.zero_add, Nat.add_zero, Nat.reduceAdd, List.getElem?_cons_zero, List.getElem?_cons_succ, List.length_cons, List.length_nil, List.all_cons, List.all_nil, Bool.and_self, Bool.and_true, Bool.true_and, Option.bind_some, Nat.reduceLeDiff, Nat.reduceEqDiff, Nat.le_refl, and_self, if_true, if_false, List.drop_zero, List.drop_succ_cons, List.take_zero, List.take_succ_cons, List.take_nil, List.drop_nil, true_and, and_true, decide_true, decide_false, Nat.reduceMul, Nat.zero_mul, Nat.one_mul, Nat.mul_one, e2, e3, e4, e18]
  cases h2 : (n.kind == 2) <;> rw [h2] at hK <;> (try simp only [RS, List.cons_append, List.nil_append, Option.isNone_some, Option.isNone_none, Option.isSome_some, Option.isSome_none, Nat.zero_add, Nat.add_zero, Nat.reduceAdd, List.getElem?_cons_zero, List.getElem?_cons_succ, List.length_cons, List.length_nil, List.all_cons, List.all_nil, Bool.and_self, Bool.and_true, Bool.true_and, Option.bind_some, Nat.reduceLeDiff, Nat.reduceEqDiff, Nat.le_refl, and_self, if_true, if_false, List.drop_zero, List.drop_succ_cons, List.take_zero, List.take_succ_cons, List.take_nil, List.drop_nil, true_and, and_true, decide_true, decide_false, Nat.reduceMul, Nat.zero_mul, Nat.one_mul, Nat.mul_one, e3, e4, e18])
  · cases h3 : (n.kind == 3) <;> rw [h3] at hK <;> (try simp only [RS, List.cons_append, List.nil_append, Option.isNone_some, Option.isNone_none, Option.isSome_some, Option.isSome_none, Nat.zero_add, Nat.add_zero, Nat.reduceAdd, List.getElem?_cons_zero, List.getElem?_cons_succ, List.length_cons, List.length_nil, List.all_cons, List.all_nil, Bool.and_self, Bool.and_true, Bool.true_and, Option.bind_some, Nat.reduceLeDiff, Nat.reduceEqDiff, Nat.le_refl, and_self, if_true, if_false, List.drop_zero, List.drop_succ_cons, List.take_zero, List.take_succ_cons, List.take_nil, List.drop_nil, true_and, and_true, decide_true, decide_false, Nat.reduceMul, Nat.zero_mul, Nat.one_mul, Nat.mul_one, e4, e18])
    · cases h4 : (n.kind == 4) <;> rw [h4] at hK <;> (try simp only [RS, List.cons_append, List.nil_append, Option.isNone_some, Option.isNone_none, Option.isSome_some, Option.isSome_none, Nat.zero_add, Nat.add_zero, Nat.reduceAdd, List.getElem?_cons_zero, List.getElem?_cons_succ, List.length_cons, List.length_nil, List.all_cons, List.all_nil, Bool.and_self, Bool.and_true, Bool.true_and, Option.bind_some, Nat.reduceLeDiff, Nat.reduceEqDiff, Nat.le_refl, and_self, if_true, if_false, List.drop_zero, List.drop_succ_cons, List.take_zero, List.take_succ_cons, List.take_nil, List.drop_nil, true_and, and_true, decide_true, decide_false, Nat.reduceMul, Nat.zero_mul, Nat.one_mul, Nat.mul_one, e18]) <;> exact hK
    · exact hK
  · exact hK
theorem Name_ok {k : Nat} (hk : k < 256) (hs : sat H (NM * F)) (hK : ∀ b : ByteArray, (b.data.toList == []) = !valid k → K (.string b) H) : DS Tryz.prog Fi.notes_Name [.int .u8 k] H K := by
  refine use_notes_Name 0 ?_
  unfold sh_notes_Name
  obtain ⟨T, h⟩ := sat_NM.1 hs
  have g := (sat_get h).1
  have hw : IntKind.i64.wrap (k : Int) = k := w64n (by omega)
  simp only [RS, List.cons_append, List.nil_append, Option.isNone_some, Option.isNone_none, Option.isSome_some, Option.isSome_none, Nat.zero_add, Nat.add_zero, Nat.reduceAdd, List.getElem?_cons_zero, List.getElem?_cons_succ, List.length_cons, List.length_nil, List.all_cons, List.all_nil, Bool.and_self, Bool.and_true, Bool.true_and, Option.bind_some, Nat.reduceLeDiff, Nat.reduceEqDiff, Nat.le_refl, and_self, if_true, if_false, List.drop_zero, List.drop_succ_cons, List.take_zero, List.take_succ_cons, List.take_nil, List.drop_nil, true_and, and_true, decide_true, decide_false, Nat.reduceMul, Nat.zero_mul, Nat.one_mul, Nat.mul_one, hw]
  by_cases hb : k < 38
  · have h1 : decide ((k : Int) ≥ 38) = false := by rw [decide_eq_false_iff_not]; omega
    have h2 : decide ((0 : Int) ≤ (k : Int)) = true := decide_eq_true (by omega)
    have h3 : decide ((k : Int) < ((38 : Nat) : Int)) = true := decide_eq_true (by omega)
    have h4 : namesC[k]? = some (.string ⟨⟨namesL[k]?.getD []⟩⟩) := by
      have hl : k < namesL.length := hb
      unfold namesC
      rw [List.getElem?_map, List.getElem?_eq_getElem hl]
      rfl
    simp only [RS, List.cons_append, List.nil_append, Option.isNone_some, Option.isNone_none, Option.isSome_some, Option.isSome_none, Nat.zero_add, Nat.add_zero, Nat.reduceAdd, List.getElem?_cons_zero, List.getElem?_cons_succ, List.length_cons, List.length_nil, List.all_cons, List.all_nil, Bool.and_self, Bool.and_true, Bool.true_and, Option.bind_some, Nat.reduceLeDiff, Nat.reduceEqDiff, Nat.le_refl, and_self, if_true, if_false, List.drop_zero, List.drop_succ_cons, List.take_zero, List.take_succ_cons, List.take_nil, List.drop_nil, true_and, and_true, decide_true, decide_false, Nat.reduceMul, Nat.zero_mul, Nat.one_mul, Nat.mul_one, h1, ixA, h2, h3, Int.toNat_natCast, cond_true, g, h4]
    exact hK ⟨⟨namesL[k]?.getD []⟩⟩ (names_valid k hb)
  · have h1 : decide ((k : Int) ≥ 38) = true := decide_eq_true (by omega)
    simp only [RS, List.cons_append, List.nil_append, Option.isNone_some, Option.isNone_none, Option.isSome_some, Option.isSome_none, Nat.zero_add, Nat.add_zero, Nat.reduceAdd, List.getElem?_cons_zero, List.getElem?_cons_succ, List.length_cons, List.length_nil, List.all_cons, List.all_nil, Bool.and_self, Bool.and_true, Bool.true_and, Option.bind_some, Nat.reduceLeDiff, Nat.reduceEqDiff, Nat.le_refl, and_self, if_true, if_false, List.drop_zero, List.drop_succ_cons, List.take_zero, List.take_succ_cons, List.take_nil, List.drop_nil, true_and, and_true, decide_true, decide_false, Nat.reduceMul, Nat.zero_mul, Nat.one_mul, Nat.mul_one, h1]
    refine hK _ ?_
    have : valid k = false := by
      unfold valid
      have a1 : decide (k ≤ 5) = false := decide_eq_false (by omega)
      have a2 : decide (k ≤ 37) = false := decide_eq_false (by omega)
      rw [a1, a2]; simp
    rw [this]; rfl
end
def allT : Int → Option DD := ovr (ovr (ovr (ovr qT mT) lT) wT) nT
theorem all_OK {k : Nat} (h : valid k = true) : ∃ d, allT (k : Int) = some d ∧ d.OK k := by
  have hk : k = 1 ∨ k = 2 ∨ k = 3 ∨ k = 4 ∨ k = 5 ∨ k = 16 ∨ k = 17 ∨ k = 18 ∨ k = 19 ∨ k = 20 ∨ k = 21 ∨ k = 22 ∨ k = 23 ∨ k = 24 ∨ k = 25 ∨ k = 26 ∨ k = 27 ∨ k = 28 ∨ k = 29 ∨ k = 30 ∨ k = 31 ∨ k = 32 ∨ k = 33 ∨ k = 34 ∨ k = 35 ∨ k = 36 ∨ k = 37 := by
    unfold valid at h
    simp only [Bool.or_eq_true, Bool.and_eq_true, decide_eq_true_eq] at h
    omega
  rcases hk with rfl | rfl | rfl | rfl | rfl | rfl | rfl | rfl | rfl | rfl | rfl | rfl | rfl | rfl | rfl | rfl | rfl | rfl | rfl | rfl | rfl | rfl | rfl | rfl | rfl | rfl | rfl
  · exact ⟨_, rfl, ask_OK (fun s n => rfl) (by decide) m1 (.inr ⟨⟨_, _, _, rfl⟩, t1⟩)⟩
  · exact ⟨_, rfl, ask_OK (fun s n => rfl) (by decide) m2 (.inr ⟨⟨_, _, _, rfl⟩, t2⟩)⟩
  · exact ⟨_, rfl, ask_OK (fun s n => rfl) (by decide) m3 (.inr ⟨⟨_, _, _, rfl⟩, t3⟩)⟩
  · exact ⟨_, rfl, ask_OK (fun s n => rfl) (by decide) m4 (.inr ⟨⟨_, _, _, rfl⟩, t4⟩)⟩
  · exact ⟨_, rfl, ask_OK (fun s n => rfl) (by decide) m5 (.inr ⟨⟨_, _, _, rfl⟩, t5⟩)⟩
  · exact ⟨_, rfl, ask_OK (fun s n => rfl) (by decide) m16 (.inr ⟨⟨_, _, _, rfl⟩, t16⟩)⟩
  · exact ⟨_, rfl, ask_OK (fun s n => rfl) (by decide) m17 (.inr ⟨⟨_, _, _, rfl⟩, t17⟩)⟩
  · exact ⟨_, rfl, ask_OK (fun s n => rfl) (by decide) m18 (.inr ⟨⟨_, _, _, rfl⟩, t18⟩)⟩
  · exact ⟨_, rfl, ask_OK (fun s n => rfl) (by decide) m19 (.inl ⟨rfl, fun s n => rfl⟩)⟩
  · exact ⟨_, rfl, ask_OK (fun s n => rfl) (by decide) m20 (.inl ⟨rfl, fun s n => rfl⟩)⟩
  · exact ⟨_, rfl, on_OK (fun s n => rfl) may21 then21 (fun s n => rfl) (fun s n => rfl)⟩
  · exact ⟨_, rfl, on_OK (fun s n => rfl) may22 then22 (fun s n => rfl) (fun s n => rfl)⟩
  · exact ⟨_, rfl, on_OK (fun s n => rfl) may23 then23 (fun s n => rfl) (fun s n => rfl)⟩
  · exact ⟨_, rfl, on_OK (fun s n => rfl) may24 then24 (fun s n => rfl) (fun s n => rfl)⟩
  · exact ⟨_, rfl, on_OK (fun s n => rfl) may25 then25 (fun s n => rfl) (fun s n => rfl)⟩
  · exact ⟨_, rfl, on_OK (fun s n => rfl) may26 then26 (fun s n => rfl) (fun s n => rfl)⟩
  · exact ⟨_, rfl, on_OK (fun s n => rfl) may27 then27 (fun s n => rfl) (fun s n => rfl)⟩
  · exact ⟨_, rfl, on_OK (fun s n => rfl) may28 then28 (fun s n => rfl) (fun s n => rfl)⟩
  · exact ⟨_, rfl, ask_OK (fun s n => rfl) (by decide) m29 (.inr ⟨⟨_, _, _, rfl⟩, t29⟩)⟩
  · exact ⟨_, rfl, pl_OK (gives_ok 30 (.inl rfl))⟩
  · exact ⟨_, rfl, pl_OK (gives_ok 31 (.inr rfl))⟩
  · exact ⟨_, rfl, ask_OK (fun s n => rfl) (by decide) m32 (.inl ⟨rfl, fun s n => rfl⟩)⟩
  · exact ⟨_, rfl, ask_OK (fun s n => rfl) (by decide) m33 (.inr ⟨⟨_, _, _, rfl⟩, t33⟩)⟩
  · exact ⟨_, rfl, ask_OK (fun s n => rfl) (by decide) (m34' 34 (.inl rfl)) (.inr ⟨⟨_, _, _, rfl⟩, t34⟩)⟩
  · exact ⟨_, rfl, ask_OK (fun s n => rfl) (by decide) (m34' 35 (.inr rfl)) (.inr ⟨⟨_, _, _, rfl⟩, t35⟩)⟩
  · exact ⟨_, rfl, ask_OK (fun s n => rfl) (by decide) m36 (.inl ⟨rfl, fun s n => rfl⟩)⟩
  · exact ⟨_, rfl, ask_OK (fun s n => rfl) (by decide) m37 (.inl ⟨rfl, fun s n => rfl⟩)⟩

/-- A state without anything. -/
structure unb (s : SS) : Prop where
  q : ∀ a, s.q a = []
  ow : ∀ a, s.ow a = 0
  lk : ∀ a, s.lk a = .zero
  on : ∀ a, s.on a = .zero
  wa : ∀ t, s.wa t = none
/-- A state, whether its maps are made or not. -/
def StA (p : Nat) (s : SS) : SL := ex fun b : Bool => match b with
  | true => StR p s
  | false => lift (unb s) * pts p (hdS s none none none none none)
section
variable {H : AH} {F : SL} {K : KV} {p : Nat} {s : SS}
theorem sat_StA : sat H (StA p s * F) ↔ sat H (StR p s * F) ∨ (unb s ∧ sat H (pts p (hdS s none none none none none) * F)) := by
  unfold StA
  rw [sat_exS]
  constructor
  · rintro ⟨b, h⟩
    cases b with
    | true => exact .inl h
    | false =>
      simp only at h
      rw [sep_assoc, sat_lift] at h
      exact .inr h
  · rintro (h | h)
    · exact ⟨true, h⟩
    · refine ⟨false, ?_⟩
      simp only
      rw [sep_assoc, sat_lift]
      exact h
theorem StA_hd (h : sat H (StA p s * F)) : ∃ q o l n w, H.get p = some (hdS s q o l n w) := by
  rcases sat_StA.1 h with h | ⟨-, h⟩
  · obtain ⟨d, -, h1⟩ := sat_StR.1 h
    exact ⟨_, _, _, _, _, (sat_get h1).1⟩
  · exact ⟨_, _, _, _, _, (sat_get h).1⟩
theorem begin_ok (hs : sat H (StA p s * F)) (hK : ∀ H', sat H' (StR p s * F) → K (.tuple ⟨[]⟩) H') : DS Tryz.prog Fi.specs_State_begin [ptr p] H K := by
  refine use_specs_State_begin 0 ?_
  unfold sh_specs_State_begin
  rcases sat_StA.1 hs with h | ⟨hu, h⟩
  · obtain ⟨d, -, h1⟩ := sat_StR.1 h
    have g := (sat_get h1).1
    simp only [DX.hd, hdS] at g
    simp only [RS, List.cons_append, List.nil_append, Option.isNone_some, Option.isNone_none, Option.isSome_some, Option.isSome_none, Nat.zero_add, Nat.add_zero, Nat.reduceAdd, List.getElem?_cons_zero, List.getElem?_cons_succ, List.length_cons, List.length_nil, List.all_cons, List.all_nil, Bool.and_self, Bool.and_true, Bool.true_and, Option.bind_some, Nat.reduceLeDiff, Nat.reduceEqDiff, Nat.le_refl, and_self, if_true, if_false, List.drop_zero, List.drop_succ_cons, List.take_zero, List.take_succ_cons, List.take_nil, List.drop_nil, true_and, and_true, decide_true, decide_false, Nat.reduceMul, Nat.zero_mul, Nat.one_mul, Nat.mul_one, g]
    exact hK _ h
  · have g := (sat_get h).1
    simp only [hdS] at g
    have n1 := map_empty (kk := .u32) (f := qF) (sat_new (.map [] 0) h)
    have n2 := map_empty (kk := .u32) (f := owF) (sat_new (.map [] 0) n1)
    have n3 := map_empty (kk := .u32) (f := lkF) (sat_new (.map [] 0) n2)
    have n4 := map_empty (kk := .u32) (f := onF) (sat_new (.map [] 0) n3)
    have n5 := map_empty (kk := .i64) (f := waF) (sat_new (.map [] 0) n4)
    have n6 := sat_of_eq (B := pts p (hdS s none none none none none) * (mapA .u32 H.nx (fun _ => none) qF * (mapA .u32 (H.new (.map [] 0)).nx (fun _ => none) owF * (mapA .u32 ((H.new (.map [] 0)).new (.map [] 0)).nx (fun _ => none) lkF * (mapA .u32 (((H.new (.map [] 0)).new (.map [] 0)).new (.map [] 0)).nx (fun _ => none) onF *
      (mapA .i64 ((((H.new (.map [] 0)).new (.map [] 0)).new (.map [] 0)).new (.map [] 0)).nx (fun _ => none) waF * F)))))) n5 (by ac_rfl)
    have g6 := (sat_get n6).1
    simp only [hdS] at g6
    simp only [RS, List.cons_append, List.nil_append, Option.isNone_some, Option.isNone_none, Option.isSome_some, Option.isSome_none, Nat.zero_add, Nat.add_zero, Nat.reduceAdd, List.getElem?_cons_zero, List.getElem?_cons_succ, List.length_cons, List.length_nil, List.all_cons, List.all_nil, Bool.and_self, Bool.and_true, Bool.true_and, Option.bind_some, Nat.reduceLeDiff, Nat.reduceEqDiff, Nat.le_refl, and_self, if_true, if_false, List.drop_zero, List.drop_succ_cons, List.take_zero, List.take_succ_cons, List.take_nil, List.drop_nil, true_and, and_true, decide_true, decide_false, Nat.reduceMul, Nat.zero_mul, Nat.one_mul, Nat.mul_one, g]
    simp only [AH.nx_new] at g6 n6 ⊢
    simp only [RS, List.cons_append, List.nil_append, Option.isNone_some, Option.isNone_none, Option.isSome_some, Option.isSome_none, Nat.zero_add, Nat.add_zero, Nat.reduceAdd, List.getElem?_cons_zero, List.getElem?_cons_succ, List.length_cons, List.length_nil, List.all_cons, List.all_nil, Bool.and_self, Bool.and_true, Bool.true_and, Option.bind_some, Nat.reduceLeDiff, Nat.reduceEqDiff, Nat.le_refl, and_self, if_true, if_false, List.drop_zero, List.drop_succ_cons, List.take_zero, List.take_succ_cons, List.take_nil, List.drop_nil, true_and, and_true, decide_true, decide_false, Nat.reduceMul, Nat.zero_mul, Nat.one_mul, Nat.mul_one, g6, get_put_eq]
    refine hK _ (sat_StR.2 ⟨⟨H.nx, H.nx + 1, H.nx + 1 + 1, H.nx + 1 + 1 + 1, H.nx + 1 + 1 + 1 + 1, fun _ => none, fun _ => none, fun _ => none, fun _ => none, fun _ => none⟩, ⟨fun a => hu.q a, fun a => hu.ow a, fun a => hu.lk a, fun a => hu.on a, fun t => hu.wa t⟩, ?_⟩)
    have n7 := sat_put (hdS s (some H.nx) (some (H.nx + 1)) (some (H.nx + 1 + 1)) (some (H.nx + 1 + 1 + 1)) (some (H.nx + 1 + 1 + 1 + 1))) (sat_put (hdS s (some H.nx) (some (H.nx + 1)) (some (H.nx + 1 + 1)) (some (H.nx + 1 + 1 + 1)) none) (sat_put (hdS s (some H.nx) (some (H.nx + 1)) (some (H.nx + 1 + 1)) none none) (sat_put (hdS s (some H.nx) (some (H.nx + 1)) none none none) (sat_put (hdS s (some H.nx) none none none none) n6))))
    exact sat_of_eq n7 (by simp only [DX.maps, DX.hd]; ac_rfl)

/-- A note seen: its fault, and what is so then. -/
noncomputable def sawS (s : SS) (n : NV) : Int × SS :=
  bif valid n.kind && thr n.thread && (!n.oth || thr n.other) then
    bif s.seen && decide (n.step < s.step) then (4, s)
    else (fltS n.kind s n, bif fltS n.kind s n == 0 then { deedS n.kind s n with step := n.step, seen := true } else s)
  else (1, s)
theorem fltS_fit (k : Nat) (s : SS) (n : NV) : fltS k s n = 0 ∨ fltS k s n = 2 ∨ fltS k s n = 3 := by
  unfold fltS
  cases (k == 30 || k == 31) <;> cases decide (s.wa n.thread = some n.addr) <;> cases decide (n.thread ∈ s.q n.addr) <;> cases mayB k s n <;> cases (decide (k ≤ 5) || k == 32) <;> simp
theorem hd_put {H : AH} {s' : SS} {n : NV} (h : sat H (StR p s * F)) (hf : s' = { s with step := n.step, seen := true }) : ∃ q o l n' w, H.get p = some (hdS s q o l n' w) ∧ sat ((H.put p (hdS { s with step := n.step } q o l n' w)).put p (hdS s' q o l n' w)) (StR p s' * F) := by
  obtain ⟨d, hd, h1⟩ := sat_StR.1 h
  refine ⟨_, _, _, _, _, (sat_get h1).1, sat_StR.2 ⟨d, ?_, sat_put _ (sat_put _ h1)⟩⟩
  subst hf
  exact ⟨hd.q, hd.ow, hd.lk, hd.on, hd.wa⟩
theorem Saw_ok {n : NV} (ho : s.ok) (hk : n.kind < 256) (hs : sat H (StA p s * (NM * F))) (hK : ∀ H', sat H' (StA p (sawS s n).2 * (NM * F)) → K (.int .u8 (sawS s n).1) H') : DS Tryz.prog Fi.specs_State_Saw [ptr p, n.val] H K := by
  refine use_specs_State_Saw 0 ?_
  unfold sh_specs_State_Saw
  have hn0 := sat_new (.cells n.row Ty.notes_Note .fix) hs
  have hn : sat (H.new (.cells n.row Ty.notes_Note .fix)) (NM * (StA p s * (pts H.nx (.cells n.row Ty.notes_Note .fix) * F))) := sat_of_eq hn0 (by ac_rfl)
  have gn := (sat_get hn0).1
  have drop : ∀ {H' : AH} {s' : SS}, sat H' (NM * (StA p s' * (pts H.nx (.cells n.row Ty.notes_Note .fix) * F))) → sat H' (StA p s' * (NM * F)) := fun h => sat_sub (A := pts H.nx (.cells n.row Ty.notes_Note .fix)) (sat_of_eq h (by ac_rfl))
  simp only [RS, List.cons_append, List.nil_append, Option.isNone_some, Option.isNone_none, Option.isSome_some, Option.isSome_none, Nat.zero_add, Nat.add_zero, Nat.reduceAdd, List.getElem?_cons_zero, List.getElem?_cons_succ, List.length_cons, List.length_nil, List.all_cons, List.all_nil, Bool.and_self, Bool.and_true, Bool.true_and, Option.bind_some, Nat.reduceLeDiff, Nat.reduceEqDiff, Nat.le_refl, and_self, if_true, if_false, List.drop_zero, List.drop_succ_cons, List.take_zero, List.take_succ_cons, List.take_nil, List.drop_nil, true_and, and_true, decide_true, decide_false, Nat.reduceMul, Nat.zero_mul, Nat.one_mul, Nat.mul_one, gn]
  refine Name_ok hk hn fun b hb => ?_
  have hb2 : binT .eql (some (.one .str)) true (.string b) (.string ⟨⟨[]⟩⟩) = some (.bool (!valid n.kind)) := by rw [← hb]; rfl
  simp only [RS, List.cons_append, List.nil_append, Option.isNone_some, Option.isNone_none, Option.isSome_some, Option.isSome_none, Nat.zero_add, Nat.add_zero, Nat.reduceAdd, List.getElem?_cons_zero, List.getElem?_cons_succ, List.length_cons, List.length_nil, List.all_cons, List.all_nil, Bool.and_self, Bool.and_true, Bool.true_and, Option.bind_some, Nat.reduceLeDiff, Nat.reduceEqDiff, Nat.le_refl, and_self, if_true, if_false, List.drop_zero, List.drop_succ_cons, List.take_zero, List.take_succ_cons, List.take_nil, List.drop_nil, true_and, and_true, decide_true, decide_false, Nat.reduceMul, Nat.zero_mul, Nat.one_mul, Nat.mul_one, hb2]
  cases hv : valid n.kind with
  | false =>
    have e : sawS s n = (1, s) := by simp only [sawS, hv, Bool.false_and, cond_false]
    rw [e] at hK
    simp only [RS, List.cons_append, List.nil_append, Option.isNone_some, Option.isNone_none, Option.isSome_some, Option.isSome_none, Nat.zero_add, Nat.add_zero, Nat.reduceAdd, List.getElem?_cons_zero, List.getElem?_cons_succ, List.length_cons, List.length_nil, List.all_cons, List.all_nil, Bool.and_self, Bool.and_true, Bool.true_and, Option.bind_some, Nat.reduceLeDiff, Nat.reduceEqDiff, Nat.le_refl, and_self, if_true, if_false, List.drop_zero, List.drop_succ_cons, List.take_zero, List.take_succ_cons, List.take_nil, List.drop_nil, true_and, and_true, decide_true, decide_false, Nat.reduceMul, Nat.zero_mul, Nat.one_mul, Nat.mul_one, Bool.not_false]
    exact hK _ (drop hn)
  | true =>
    simp only [RS, List.cons_append, List.nil_append, Option.isNone_some, Option.isNone_none, Option.isSome_some, Option.isSome_none, Nat.zero_add, Nat.add_zero, Nat.reduceAdd, List.getElem?_cons_zero, List.getElem?_cons_succ, List.length_cons, List.length_nil, List.all_cons, List.all_nil, Bool.and_self, Bool.and_true, Bool.true_and, Option.bind_some, Nat.reduceLeDiff, Nat.reduceEqDiff, Nat.le_refl, and_self, if_true, if_false, List.drop_zero, List.drop_succ_cons, List.take_zero, List.take_succ_cons, List.take_nil, List.drop_nil, true_and, and_true, decide_true, decide_false, Nat.reduceMul, Nat.zero_mul, Nat.one_mul, Nat.mul_one, Bool.not_true, gn]
    refine threaded_ok ?_
    cases ht : thr n.thread with
    | false =>
      have e : sawS s n = (1, s) := by simp only [sawS, hv, ht, Bool.false_and, Bool.and_false, cond_false]
      rw [e] at hK
      simp only [RS, List.cons_append, List.nil_append, Option.isNone_some, Option.isNone_none, Option.isSome_some, Option.isSome_none, Nat.zero_add, Nat.add_zero, Nat.reduceAdd, List.getElem?_cons_zero, List.getElem?_cons_succ, List.length_cons, List.length_nil, List.all_cons, List.all_nil, Bool.and_self, Bool.and_true, Bool.true_and, Option.bind_some, Nat.reduceLeDiff, Nat.reduceEqDiff, Nat.le_refl, and_self, if_true, if_false, List.drop_zero, List.drop_succ_cons, List.take_zero, List.take_succ_cons, List.take_nil, List.drop_nil, true_and, and_true, decide_true, decide_false, Nat.reduceMul, Nat.zero_mul, Nat.one_mul, Nat.mul_one, Bool.not_false]
      exact hK _ (drop hn)
    | true =>
      simp only [RS, List.cons_append, List.nil_append, Option.isNone_some, Option.isNone_none, Option.isSome_some, Option.isSome_none, Nat.zero_add, Nat.add_zero, Nat.reduceAdd, List.getElem?_cons_zero, List.getElem?_cons_succ, List.length_cons, List.length_nil, List.all_cons, List.all_nil, Bool.and_self, Bool.and_true, Bool.true_and, Option.bind_some, Nat.reduceLeDiff, Nat.reduceEqDiff, Nat.le_refl, and_self, if_true, if_false, List.drop_zero, List.drop_succ_cons, List.take_zero, List.take_succ_cons, List.take_nil, List.drop_nil, true_and, and_true, decide_true, decide_false, Nat.reduceMul, Nat.zero_mul, Nat.one_mul, Nat.mul_one, Bool.not_true, gn]
      refine others_ok ?_
      have rest : (!n.oth || thr n.other) = true → sawS s n = (bif s.seen && decide (n.step < s.step) then (4, s)
          else (fltS n.kind s n, bif fltS n.kind s n == 0 then { deedS n.kind s n with step := n.step, seen := true } else s)) := fun h => by simp only [sawS, hv, ht, h, Bool.and_self, cond_true]
      obtain ⟨q, o, l, n', w, gp⟩ := StA_hd (sat_sub hn)
      simp only [hdS] at gp
      have hth := thr_iff.1 ht
      cases hoth : n.oth
      case' true =>
        simp only [RS, List.cons_append, List.nil_append, Option.isNone_some, Option.isNone_none, Option.isSome_some, Option.isSome_none, Nat.zero_add, Nat.add_zero, Nat.reduceAdd, List.getElem?_cons_zero, List.getElem?_cons_succ, List.length_cons, List.length_nil, List.all_cons, List.all_nil, Bool.and_self, Bool.and_true, Bool.true_and, Option.bind_some, Nat.reduceLeDiff, Nat.reduceEqDiff, Nat.le_refl, and_self, if_true, if_false, List.drop_zero, List.drop_succ_cons, List.take_zero, List.take_succ_cons, List.take_nil, List.drop_nil, true_and, and_true, decide_true, decide_false, Nat.reduceMul, Nat.zero_mul, Nat.one_mul, Nat.mul_one, gn]
        refine threaded_ok ?_
        cases hot : thr n.other
        case false =>
          have e : sawS s n = (1, s) := by simp only [sawS, hv, ht, hoth, hot, Bool.not_true, Bool.or_self, Bool.and_false, cond_false]
          rw [e] at hK
          simp only [RS, List.cons_append, List.nil_append, Option.isNone_some, Option.isNone_none, Option.isSome_some, Option.isSome_none, Nat.zero_add, Nat.add_zero, Nat.reduceAdd, List.getElem?_cons_zero, List.getElem?_cons_succ, List.length_cons, List.length_nil, List.all_cons, List.all_nil, Bool.and_self, Bool.and_true, Bool.true_and, Option.bind_some, Nat.reduceLeDiff, Nat.reduceEqDiff, Nat.le_refl, and_self, if_true, if_false, List.drop_zero, List.drop_succ_cons, List.take_zero, List.take_succ_cons, List.take_nil, List.drop_nil, true_and, and_true, decide_true, decide_false, Nat.reduceMul, Nat.zero_mul, Nat.one_mul, Nat.mul_one, Bool.not_false]
          exact hK _ (drop hn)
        case' true =>
          have hoo : (!n.oth || thr n.other) = true := by rw [hot]; simp
          simp only [RS, List.cons_append, List.nil_append, Option.isNone_some, Option.isNone_none, Option.isSome_some, Option.isSome_none, Nat.zero_add, Nat.add_zero, Nat.reduceAdd, List.getElem?_cons_zero, List.getElem?_cons_succ, List.length_cons, List.length_nil, List.all_cons, List.all_nil, Bool.and_self, Bool.and_true, Bool.true_and, Option.bind_some, Nat.reduceLeDiff, Nat.reduceEqDiff, Nat.le_refl, and_self, if_true, if_false, List.drop_zero, List.drop_succ_cons, List.take_zero, List.take_succ_cons, List.take_nil, List.drop_nil, true_and, and_true, decide_true, decide_false, Nat.reduceMul, Nat.zero_mul, Nat.one_mul, Nat.mul_one, Bool.not_true]
      case' false =>
        have hoo : (!n.oth || thr n.other) = true := by rw [hoth]; simp
        simp only [RS, List.cons_append, List.nil_append, Option.isNone_some, Option.isNone_none, Option.isSome_some, Option.isSome_none, Nat.zero_add, Nat.add_zero, Nat.reduceAdd, List.getElem?_cons_zero, List.getElem?_cons_succ, List.length_cons, List.length_nil, List.all_cons, List.all_nil, Bool.and_self, Bool.and_true, Bool.true_and, Option.bind_some, Nat.reduceLeDiff, Nat.reduceEqDiff, Nat.le_refl, and_self, if_true, if_false, List.drop_zero, List.drop_succ_cons, List.take_zero, List.take_succ_cons, List.take_nil, List.drop_nil, true_and, and_true, decide_true, decide_false, Nat.reduceMul, Nat.zero_mul, Nat.one_mul, Nat.mul_one, Bool.not_true]
      all_goals
        refine jn_rule (fun t H' => t = (ptr p, ptr H.nx, ()) ∧ H' = H.new (.cells n.row Ty.notes_Note .fix) ∧ (s.seen && decide (n.step < s.step)) = false) ?_ ?_
        · rintro t H' ⟨rfl, rfl, hst⟩
          rw [rest hoo, hst, cond_false] at hK
          have hnok : n.ok := ⟨hth, fun h => by rw [h] at hoo; exact thr_iff.1 (by simpa using hoo)⟩
          simp only [RS, List.cons_append, List.nil_append, Option.isNone_some, Option.isNone_none, Option.isSome_some, Option.isSome_none, Nat.zero_add, Nat.add_zero, Nat.reduceAdd, List.getElem?_cons_zero, List.getElem?_cons_succ, List.length_cons, List.length_nil, List.all_cons, List.all_nil, Bool.and_self, Bool.and_true, Bool.true_and, Option.bind_some, Nat.reduceLeDiff, Nat.reduceEqDiff, Nat.le_refl, and_self, if_true, if_false, List.drop_zero, List.drop_succ_cons, List.take_zero, List.take_succ_cons, List.take_nil, List.drop_nil, true_and, and_true, decide_true, decide_false, Nat.reduceMul, Nat.zero_mul, Nat.one_mul, Nat.mul_one]
          refine begin_ok (sat_of_eq hn (by ac_rfl : _ = StA p s * (pts H.nx (.cells n.row Ty.notes_Note .fix) * (NM * F)))) fun H1 h1 => ?_
          have g1 := (sat_get (sat_sub h1)).1
          simp only [RS, List.cons_append, List.nil_append, Option.isNone_some, Option.isNone_none, Option.isSome_some, Option.isSome_none, Nat.zero_add, Nat.add_zero, Nat.reduceAdd, List.getElem?_cons_zero, List.getElem?_cons_succ, List.length_cons, List.length_nil, List.all_cons, List.all_nil, Bool.and_self, Bool.and_true, Bool.true_and, Option.bind_some, Nat.reduceLeDiff, Nat.reduceEqDiff, Nat.le_refl, and_self, if_true, if_false, List.drop_zero, List.drop_succ_cons, List.take_zero, List.take_succ_cons, List.take_nil, List.drop_nil, true_and, and_true, decide_true, decide_false, Nat.reduceMul, Nat.zero_mul, Nat.one_mul, Nat.mul_one, g1]
          refine deeds_ok h1 fun m H2 h2 => ?_
          have g2 := (sat_get (sat_sub (sat_sub h2))).1
          obtain ⟨d, hd1, hd2⟩ := all_OK hv
          obtain ⟨v, h3⟩ := map_open (k := (n.kind : Int)) h2 hd1
          have hl := map_look_some (sat_sub h3) .nilFunc false
          simp only [RS, List.cons_append, List.nil_append, Option.isNone_some, Option.isNone_none, Option.isSome_some, Option.isSome_none, Nat.zero_add, Nat.add_zero, Nat.reduceAdd, List.getElem?_cons_zero, List.getElem?_cons_succ, List.length_cons, List.length_nil, List.all_cons, List.all_nil, Bool.and_self, Bool.and_true, Bool.true_and, Option.bind_some, Nat.reduceLeDiff, Nat.reduceEqDiff, Nat.le_refl, and_self, if_true, if_false, List.drop_zero, List.drop_succ_cons, List.take_zero, List.take_succ_cons, List.take_nil, List.drop_nil, true_and, and_true, decide_true, decide_false, Nat.reduceMul, Nat.zero_mul, Nat.one_mul, Nat.mul_one, g2, same_refl, hl, lkV]
          have h4 : sat H2 (StR p s * (deedA d v * (pts H.nx (.cells n.row Ty.notes_Note .fix) * (NM * F)))) := by
            have h5 : sat H2 (mapX .u8 m (ovr (ovr (ovr (ovr qT mT) lT) wT) nT) dF (n.kind : Int) v * (StR p s * (deedA d v * (pts H.nx (.cells n.row Ty.notes_Note .fix) * (NM * F))))) := sat_of_eq h3 (by unfold dF; ac_rfl)
            exact sat_sub h5
          refine hd2 v p s n H2 _ _ ho hnok rfl h4 fun H3 h6 => ?_
          have g3 := (sat_get (sat_sub h6)).1
          have fin : ∀ {H' : AH} {s' : SS}, sat H' (StR p s' * (pts H.nx (.cells n.row Ty.notes_Note .fix) * (NM * F))) → sat H' (StA p s' * (NM * F)) := fun h => sat_StA.2 (.inl (sat_sub (A := pts H.nx (.cells n.row Ty.notes_Note .fix)) (sat_of_eq h (by ac_rfl))))
          cases hf : (fltS n.kind s n == 0) with
          | true =>
            simp only [hf, cond_true] at hK
            obtain ⟨q, o, l, n', w, gq, h7⟩ := hd_put (n := n) h6 rfl
            simp only [hdS] at gq h7
            simp only [RS, List.cons_append, List.nil_append, Option.isNone_some, Option.isNone_none, Option.isSome_some, Option.isSome_none, Nat.zero_add, Nat.add_zero, Nat.reduceAdd, List.getElem?_cons_zero, List.getElem?_cons_succ, List.length_cons, List.length_nil, List.all_cons, List.all_nil, Bool.and_self, Bool.and_true, Bool.true_and, Option.bind_some, Nat.reduceLeDiff, Nat.reduceEqDiff, Nat.le_refl, and_self, if_true, if_false, List.drop_zero, List.drop_succ_cons, List.take_zero, List.take_succ_cons, List.take_nil, List.drop_nil, true_and, and_true, decide_true, decide_false, Nat.reduceMul, Nat.zero_mul, Nat.one_mul, Nat.mul_one, hf, g3, gq, get_put_eq]
            exact hK _ (fin h7)
          | false =>
            simp only [hf, cond_false] at hK
            have hde : deedS n.kind s n = s := by simp only [deedS, hf, cond_false]
            rw [hde] at h6
            simp only [RS, List.cons_append, List.nil_append, Option.isNone_some, Option.isNone_none, Option.isSome_some, Option.isSome_none, Nat.zero_add, Nat.add_zero, Nat.reduceAdd, List.getElem?_cons_zero, List.getElem?_cons_succ, List.length_cons, List.length_nil, List.all_cons, List.all_nil, Bool.and_self, Bool.and_true, Bool.true_and, Option.bind_some, Nat.reduceLeDiff, Nat.reduceEqDiff, Nat.le_refl, and_self, if_true, if_false, List.drop_zero, List.drop_succ_cons, List.take_zero, List.take_succ_cons, List.take_nil, List.drop_nil, true_and, and_true, decide_true, decide_false, Nat.reduceMul, Nat.zero_mul, Nat.one_mul, Nat.mul_one, hf]
            exact hK _ (fin h6)
        · intro R hR
          refine jn_of ?_
          simp only [RS, List.cons_append, List.nil_append, Option.isNone_some, Option.isNone_none, Option.isSome_some, Option.isSome_none, Nat.zero_add, Nat.add_zero, Nat.reduceAdd, List.getElem?_cons_zero, List.getElem?_cons_succ, List.length_cons, List.length_nil, List.all_cons, List.all_nil, Bool.and_self, Bool.and_true, Bool.true_and, Option.bind_some, Nat.reduceLeDiff, Nat.reduceEqDiff, Nat.le_refl, and_self, if_true, if_false, List.drop_zero, List.drop_succ_cons, List.take_zero, List.take_succ_cons, List.take_nil, List.drop_nil, true_and, and_true, decide_true, decide_false, Nat.reduceMul, Nat.zero_mul, Nat.one_mul, Nat.mul_one, gp]
          cases hsn : s.seen with
          | false =>
            simp only [gdD, RS, List.cons_append, List.nil_append, Option.isNone_some, Option.isNone_none, Option.isSome_some, Option.isSome_none, Nat.zero_add, Nat.add_zero, Nat.reduceAdd, List.getElem?_cons_zero, List.getElem?_cons_succ, List.length_cons, List.length_nil, List.all_cons, List.all_nil, Bool.and_self, Bool.and_true, Bool.true_and, Option.bind_some, Nat.reduceLeDiff, Nat.reduceEqDiff, Nat.le_refl, and_self, if_true, if_false, List.drop_zero, List.drop_succ_cons, List.take_zero, List.take_succ_cons, List.take_nil, List.drop_nil, true_and, and_true, decide_true, decide_false, Nat.reduceMul, Nat.zero_mul, Nat.one_mul, Nat.mul_one]
            exact hR _ _ ⟨rfl, rfl, by rw [hsn]; rfl⟩
          | true =>
            simp only [gdD, RS, List.cons_append, List.nil_append, Option.isNone_some, Option.isNone_none, Option.isSome_some, Option.isSome_none, Nat.zero_add, Nat.add_zero, Nat.reduceAdd, List.getElem?_cons_zero, List.getElem?_cons_succ, List.length_cons, List.length_nil, List.all_cons, List.all_nil, Bool.and_self, Bool.and_true, Bool.true_and, Option.bind_some, Nat.reduceLeDiff, Nat.reduceEqDiff, Nat.le_refl, and_self, if_true, if_false, List.drop_zero, List.drop_succ_cons, List.take_zero, List.take_succ_cons, List.take_nil, List.drop_nil, true_and, and_true, decide_true, decide_false, Nat.reduceMul, Nat.zero_mul, Nat.one_mul, Nat.mul_one, gn, gp]
            cases hst : decide (n.step < s.step) with
            | true =>
              rw [rest hoo, hsn, hst] at hK
              simp only [RS, List.cons_append, List.nil_append, Option.isNone_some, Option.isNone_none, Option.isSome_some, Option.isSome_none, Nat.zero_add, Nat.add_zero, Nat.reduceAdd, List.getElem?_cons_zero, List.getElem?_cons_succ, List.length_cons, List.length_nil, List.all_cons, List.all_nil, Bool.and_self, Bool.and_true, Bool.true_and, Option.bind_some, Nat.reduceLeDiff, Nat.reduceEqDiff, Nat.le_refl, and_self, if_true, if_false, List.drop_zero, List.drop_succ_cons, List.take_zero, List.take_succ_cons, List.take_nil, List.drop_nil, true_and, and_true, decide_true, decide_false, Nat.reduceMul, Nat.zero_mul, Nat.one_mul, Nat.mul_one]
              exact hK _ (drop hn)
            | false =>
              simp only [RS, List.cons_append, List.nil_append, Option.isNone_some, Option.isNone_none, Option.isSome_some, Option.isSome_none, Nat.zero_add, Nat.add_zero, Nat.reduceAdd, List.getElem?_cons_zero, List.getElem?_cons_succ, List.length_cons, List.length_nil, List.all_cons, List.all_nil, Bool.and_self, Bool.and_true, Bool.true_and, Option.bind_some, Nat.reduceLeDiff, Nat.reduceEqDiff, Nat.le_refl, and_self, if_true, if_false, List.drop_zero, List.drop_succ_cons, List.take_zero, List.take_succ_cons, List.take_nil, List.drop_nil, true_and, and_true, decide_true, decide_false, Nat.reduceMul, Nat.zero_mul, Nat.one_mul, Nat.mul_one]
              exact hR _ _ ⟨rfl, rfl, by rw [hsn, hst]; rfl⟩
end
end Go.Proofs.YtiolnpeniklhiaaGreatDoor
