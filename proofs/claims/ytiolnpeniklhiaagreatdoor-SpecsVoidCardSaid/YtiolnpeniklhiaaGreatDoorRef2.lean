/- The document's answer: the places of addresses, and how they lie in memory.
   Conditions: what stands in memory, as each states it. -/
import Derived.Test.YtiolnpeniklhiaaGreatDoorRef1
namespace Go.Proofs.YtiolnpeniklhiaaGreatDoor
open Go Go.Ab
set_option linter.all false
set_option maxRecDepth 100000

/-- All that an address has, as the document keeps it. -/
structure PR where
  q : List Int
  ow : Int
  rd : List Int
  up : Int
  cl : Int
  wr : Bool
  by_ : Int
  dn : Bool
  sk : Bool
def prOf (s : SS) (a : Int) : PR := ⟨s.q a, s.ow a - 1, (s.lk a).rd, (s.lk a).up - 1, (s.lk a).cl - 1, (s.lk a).wr, (s.on a).by_ - 1, (s.on a).dn, (s.on a).sk⟩
def PR.zero : PR := ⟨[], -1, [], -1, -1, false, -1, false, false⟩
abbrev PR.row (x : PR) (a : Int) (vq vr : Value) : List Value := [.int .u32 a, vq, .int .i64 x.ow, vr, .int .i64 x.up, .int .i64 x.cl, .bool x.wr, .int .i64 x.by_, .bool x.dn, .bool x.sk]
def plA (a : Int) (n : Nat) (x : PR) : SL := ex fun q : Value × Value => pts n (.cells (x.row a q.1 q.2) Ty.laybyref37_place .fix) * (sliceA true q.1 x.q * sliceA true q.2 x.rd)
section
variable {H : AH} {F : SL} {K : KV} {s s' : SS} {a t : Int} {r n : Nat} {x : PR}
theorem sat_plA : sat H (plA a n x * F) ↔ ∃ vq vr, sat H (pts n (.cells (x.row a vq vr) Ty.laybyref37_place .fix) * (sliceA true vq x.q * (sliceA true vr x.rd * F))) := by
  unfold plA
  rw [sat_exS]
  constructor
  · rintro ⟨q, h⟩
    exact ⟨q.1, q.2, sat_of_eq h (by rw [sep_assoc, sep_assoc])⟩
  · rintro ⟨vq, vr, h⟩
    exact ⟨(vq, vr), sat_of_eq h (by rw [sep_assoc, sep_assoc])⟩
theorem slice_cell {b : Bool} {v : Value} {xs : List Int} (h : sat H (sliceA b v xs * F)) : cellsL v = [v] ∧ plain v = true := by
  rcases sat_slice.1 h with ⟨rfl, -, -⟩ | ⟨m, e, k, rfl, -⟩ <;> exact ⟨rfl, rfl⟩
abbrev WtL := List (Int × Int)
def wrow (ws : WtL) : List Value := (ws.map fun p => [(.int .i64 p.1 : Value), .int .u32 p.2]).flatten
abbrev PL := List (Int × Nat)
structure RRel (s : SS) (L : PL) (ws : WtL) : Prop where
  nd : (L.map (·.1)).Nodup
  rg : ∀ a ∈ L.map (·.1), 0 ≤ a ∧ a < 4294967296
  no : ∀ a, a ∉ L.map (·.1) → prOf s a = PR.zero
  wnd : (ws.map (·.1)).Nodup
  wrg : ∀ p ∈ ws, 0 ≤ p.1 ∧ p.1 < 64
  wa : ∀ t a, s.wa t = some a ↔ (t, a) ∈ ws
def hdR (s : SS) (vp vw : Value) : AObj := .cells [.int .i64 s.step, .bool s.seen, vp, vw] Ty.laybyref37_State .fix
def prow (L : PL) : List Value := L.map fun x => ptr x.2
def plS (s : SS) : Int × Nat → SL := fun x => plA x.1 x.2 (prOf s x.1)
def RefL (r : Nat) (s : SS) (L : PL) : SL := ex fun q : Value × Value × WtL => lift (RRel s L q.2.2) * (pts r (hdR s q.1 q.2.1) * (ownS Ty.p_laybyref37_place 1 q.1 (prow L) * (ownS Ty.laybyref37_wait 2 q.2.1 (wrow q.2.2) * bigS (plS s) L)))
theorem sat_RefL {L : PL} : sat H (RefL r s L * F) ↔ ∃ vp vw ws, RRel s L ws ∧ sat H (pts r (hdR s vp vw) * (ownS Ty.p_laybyref37_place 1 vp (prow L) * (ownS Ty.laybyref37_wait 2 vw (wrow ws) * (bigS (plS s) L * F)))) := by
  unfold RefL
  rw [sat_exS]
  constructor
  · rintro ⟨q, h⟩
    rw [sep_assoc, sat_lift] at h
    exact ⟨_, _, _, h.1, sat_of_eq h.2 (by rw [sep_assoc, sep_assoc, sep_assoc])⟩
  · rintro ⟨vp, vw, ws, h1, h2⟩
    refine ⟨(vp, vw, ws), ?_⟩
    rw [sep_assoc, sat_lift]
    exact ⟨h1, sat_of_eq h2 (by rw [sep_assoc, sep_assoc, sep_assoc])⟩
/-- The same, its row of waits named. -/
def RefW (r : Nat) (s : SS) (L : PL) (vw : Value) (ws : WtL) : SL := ex fun vp : Value => lift (RRel s L ws) * (pts r (hdR s vp vw) * (ownS Ty.p_laybyref37_place 1 vp (prow L) * (ownS Ty.laybyref37_wait 2 vw (wrow ws) * bigS (plS s) L)))
theorem sat_RefW {L : PL} {vw : Value} {ws : WtL} : sat H (RefW r s L vw ws * F) ↔ ∃ vp, RRel s L ws ∧ sat H (pts r (hdR s vp vw) * (ownS Ty.p_laybyref37_place 1 vp (prow L) * (ownS Ty.laybyref37_wait 2 vw (wrow ws) * (bigS (plS s) L * F)))) := by
  unfold RefW
  rw [sat_exS]
  constructor
  · rintro ⟨q, h⟩
    rw [sep_assoc, sat_lift] at h
    exact ⟨_, h.1, sat_of_eq h.2 (by rw [sep_assoc, sep_assoc, sep_assoc])⟩
  · rintro ⟨vp, h1, h2⟩
    refine ⟨vp, ?_⟩
    rw [sep_assoc, sat_lift]
    exact ⟨h1, sat_of_eq h2 (by rw [sep_assoc, sep_assoc, sep_assoc])⟩
theorem RefW_L {L : PL} {vw : Value} {ws : WtL} (h : sat H (RefW r s L vw ws * F)) : sat H (RefL r s L * F) := by
  obtain ⟨vp, h1, h2⟩ := sat_RefW.1 h
  exact sat_RefL.2 ⟨vp, vw, ws, h1, h2⟩
theorem RefL_W {L : PL} (h : sat H (RefL r s L * F)) : ∃ vw ws, sat H (RefW r s L vw ws * F) := by
  obtain ⟨vp, vw, ws, h1, h2⟩ := sat_RefL.1 h
  exact ⟨vw, ws, sat_RefW.2 ⟨vp, h1, h2⟩⟩
def RefX (r : Nat) (s : SS) (L : PL) (a : Int) : SL := ex fun q : Value × Value × WtL => lift (RRel s L q.2.2) * (pts r (hdR s q.1 q.2.1) * (ownS Ty.p_laybyref37_place 1 q.1 (prow L) * (ownS Ty.laybyref37_wait 2 q.2.1 (wrow q.2.2) * bigS (plS s) (L.filter fun x => x.1 != a))))
theorem sat_RefX {L : PL} : sat H (RefX r s L a * F) ↔ ∃ vp vw ws, RRel s L ws ∧ sat H (pts r (hdR s vp vw) * (ownS Ty.p_laybyref37_place 1 vp (prow L) * (ownS Ty.laybyref37_wait 2 vw (wrow ws) * (bigS (plS s) (L.filter fun x => x.1 != a) * F)))) := by
  unfold RefX
  rw [sat_exS]
  constructor
  · rintro ⟨q, h⟩
    rw [sep_assoc, sat_lift] at h
    exact ⟨_, _, _, h.1, sat_of_eq h.2 (by rw [sep_assoc, sep_assoc, sep_assoc])⟩
  · rintro ⟨vp, vw, ws, h1, h2⟩
    refine ⟨(vp, vw, ws), ?_⟩
    rw [sep_assoc, sat_lift]
    exact ⟨h1, sat_of_eq h2 (by rw [sep_assoc, sep_assoc, sep_assoc])⟩
theorem pl_split {L : PL} (hn : (L.map (·.1)).Nodup) (hm : (a, n) ∈ L) : L.Perm ((a, n) :: L.filter fun x => x.1 != a) := by
  induction L with
  | nil => cases hm
  | cons y L ih =>
    rw [List.map_cons, List.nodup_cons] at hn
    rcases List.mem_cons.1 hm with rfl | hm
    · have e1 : (((a, n) : Int × Nat).1 != a) = false := by simp
      rw [List.filter_cons, e1]
      simp only [Bool.false_eq_true, if_false]
      have : L.filter (fun x => x.1 != a) = L := List.filter_eq_self.2 fun z hz => by
        have : z.1 ≠ a := fun e => hn.1 (List.mem_map.2 ⟨z, hz, e⟩)
        simpa using this
      rw [this]
    · have hya : y.1 ≠ a := fun e => hn.1 (List.mem_map.2 ⟨_, hm, e.symm⟩)
      have e1 : (y.1 != a) = true := by simpa using hya
      rw [List.filter_cons, e1]
      simp only [if_true]
      exact ((ih hn.2 hm).cons y).trans (List.Perm.swap _ _ _)
theorem ref_open {L : PL} (hm : (a, n) ∈ L) (h : sat H (RefL r s L * F)) : sat H (plA a n (prOf s a) * (RefX r s L a * F)) := by
  obtain ⟨vp, vw, ws, h1, h2⟩ := sat_RefL.1 h
  rw [bigS_perm (pl_split h1.nd hm), bigS_cons] at h2
  have h3 := sat_RefX.2 ⟨vp, vw, ws, h1, sat_of_eq (B := pts r (hdR s vp vw) * (ownS Ty.p_laybyref37_place 1 vp (prow L) * (ownS Ty.laybyref37_wait 2 vw (wrow ws) * (bigS (plS s) (L.filter fun x => x.1 != a) * (plA a n (prOf s a) * F))))) h2 (by unfold plS; ac_rfl)⟩
  exact sat_of_eq h3 (by ac_rfl)
theorem ref_close {L : PL} (hm : (a, n) ∈ L) (h : sat H (plA a n x * (RefX r s L a * F))) (hx : prOf s' a = x) (ho : ∀ b, b ≠ a → prOf s' b = prOf s b) (hw : s'.wa = s.wa) (hst : s'.step = s.step) (hse : s'.seen = s.seen) : sat H (RefL r s' L * F) := by
  obtain ⟨vp, vw, ws, h1, h2⟩ := sat_RefX.1 (sep_left_comm (plA a n x) (RefX r s L a) F ▸ h)
  refine sat_RefL.2 ⟨vp, vw, ws, ⟨h1.nd, h1.rg, fun b hb => ?_, h1.wnd, h1.wrg, fun t b => by rw [hw]; exact h1.wa t b⟩, ?_⟩
  · have hba : b ≠ a := fun e => hb (List.mem_map.2 ⟨_, hm, e.symm⟩)
    rw [ho b hba]; exact h1.no b hb
  · have e0 : hdR s' vp vw = hdR s vp vw := by unfold hdR; rw [hst, hse]
    have e1 : bigS (plS s') (L.filter fun x => x.1 != a) = bigS (plS s) (L.filter fun x => x.1 != a) := bigS_congr fun y hy => by
      have : y.1 ≠ a := by simpa using (List.mem_filter.1 hy).2
      unfold plS
      rw [ho _ this]
    rw [e0, bigS_perm (pl_split h1.nd hm), bigS_cons, e1]
    refine sat_of_eq h2 ?_
    show _ = _ * (_ * (_ * ((plA a n (prOf s' a) * _) * F)))
    rw [hx]
    ac_rfl
/-- What may be read of the row of places. -/
theorem own_len {T : TypeId} {es : Nat} {v : Value} {cs : List Value} (h : sat H (ownS T es v cs * F)) (k : Nat) (hk : cs.length = k * es) (hes : 0 < es) : ∀ t, lenT (.slice t) v H = some (.int .i64 (k : Int)) := by
  rcases sat_own.1 h with ⟨rfl, rfl, -⟩ | ⟨m, len, rfl, h2, -⟩
  · intro t
    have : k = 0 := by
      rcases Nat.eq_zero_or_pos k with h | h
      · exact h
      · have := Nat.mul_pos h hes
        simp at hk; omega
    subst this; rfl
  · intro t
    have : len = k := Nat.eq_of_mul_eq_mul_right hes (by rw [← h2, ← hk])
    subst this; rfl
theorem pl_at {v : Value} {L : PL} {T : TypeId} (h : sat H (ownS T 1 v (prow L) * F)) {i : Nat} {y : Int × Nat} (hy : L[i]? = some y) : ∃ p, ixS 1 v (.int .i64 (i : Int)) = some p ∧ ld1 p H = some (ptr y.2) := by
  have hil := (List.getElem?_eq_some_iff.1 hy).1
  rcases sat_own.1 h with ⟨-, e, -⟩ | ⟨m, len, rfl, h2, h3⟩
  · unfold prow at e
    rw [List.map_eq_nil_iff] at e
    subst e; simp at hy
  · have hlen : len = L.length := by unfold prow at h2; simp at h2; omega
    subst hlen
    refine ⟨_, ixS_of 1 m 0 _ _ none .i64 i hil, ?_⟩
    rw [ld1_ptr, (sat_get h3).1, cellO_cells, Nat.zero_add, Nat.mul_one]
    unfold prow
    rw [List.getElem?_map, hy]
    rfl
theorem own_cell {T : TypeId} {es : Nat} {v : Value} {cs : List Value} (h : sat H (ownS T es v cs * F)) : cellsL v = [v] ∧ plain v = true := by
  rcases sat_own.1 h with ⟨rfl, -, -⟩ | ⟨m, len, rfl, -⟩ <;> exact ⟨rfl, rfl⟩
theorem few32 {L : PL} {ws : WtL} (h : RRel s L ws) : L.length ≤ 4294967296 := by
  have := few 4294967296 (L.map (·.1)) h.nd fun t ht => by have := h.rg t ht; omega
  simpa using this
theorem New37_ok (hs : sat H F) (hK : ∀ r H', sat H' (RefL r .zero [] * F) → K (ptr r) H') : DS Tryz.prog Fi.laybyref37_New [] H K := by
  refine use_laybyref37_New 0 ?_
  unfold sh_laybyref37_New
  simp only [RS, List.cons_append, List.nil_append, Option.isNone_some, Option.isNone_none, Option.isSome_some, Option.isSome_none, Nat.zero_add, Nat.add_zero, Nat.reduceAdd, List.getElem?_cons_zero, List.getElem?_cons_succ, List.length_cons, List.length_nil, List.all_cons, List.all_nil, Bool.and_self, Bool.and_true, Bool.true_and, Option.bind_some, Nat.reduceLeDiff, Nat.reduceEqDiff, Nat.le_refl, and_self, if_true, if_false, List.drop_zero, List.drop_succ_cons, List.take_zero, List.take_succ_cons, List.take_nil, List.drop_nil, true_and, and_true, decide_true, decide_false, Nat.reduceMul, Nat.zero_mul, Nat.one_mul, Nat.mul_one]
  refine hK _ _ (sat_RefL.2 ⟨.slice none 0 0, .slice none 0 0, [], ⟨by simp, by simp, fun a _ => rfl, by simp, by simp, fun t a => by simp [SS.zero]⟩, ?_⟩)
  have h1 := sat_new (.cells [.int .i64 0, .bool false, .slice none 0 0, .slice none 0 0] Ty.laybyref37_State .fix) hs
  have h2 := own_nil Ty.p_laybyref37_place 1 (own_nil Ty.laybyref37_wait 2 h1)
  exact sat_of_eq h2 (by unfold hdR; simp only [prow, wrow, List.map_nil, List.flatten_nil, bigS_nil, emp_sep, SS.zero]; ac_rfl)
theorem atW_ok {L : PL} {vw : Value} {ws : WtL} (ha : 0 ≤ a ∧ a < 4294967296) (hsW : sat H (RefW r s L vw ws * F)) (hK : ∀ n H' L', (a, n) ∈ L' → (L' = L ∨ ∃ m, L' = L ++ [(a, m)]) → sat H' (RefW r s L' vw ws * F) → K (ptr n) H') : DS Tryz.prog Fi.laybyref37_State_at [ptr r, .int .u32 a] H K := by
  refine use_laybyref37_State_at (L.length + 2) ?_
  unfold sh_laybyref37_State_at
  have hs := RefW_L hsW
  obtain ⟨vp, h1, h2⟩ := sat_RefW.1 hsW
  have g := (sat_get h2).1
  have hl := few32 h1
  have hp := sat_sub h2
  have hlen := own_len hp L.length (by unfold prow; simp) (by omega)
  simp only [RS, List.cons_append, List.nil_append, Option.isNone_some, Option.isNone_none, Option.isSome_some, Option.isSome_none, Nat.zero_add, Nat.add_zero, Nat.reduceAdd, List.getElem?_cons_zero, List.getElem?_cons_succ, List.length_cons, List.length_nil, List.all_cons, List.all_nil, Bool.and_self, Bool.and_true, Bool.true_and, Option.bind_some, Nat.reduceLeDiff, Nat.reduceEqDiff, Nat.le_refl, and_self, if_true, if_false, List.drop_zero, List.drop_succ_cons, List.take_zero, List.take_succ_cons, List.take_nil, List.drop_nil, true_and, and_true, decide_true, decide_false, Nat.reduceMul, Nat.zero_mul, Nat.one_mul, Nat.mul_one]
  simp only [hdR] at g
  refine lp_rule (fun k t H1 => ∃ i : Nat, i ≤ L.length ∧ L.length < k + i ∧ (∀ j, j < i → ∀ y, L[j]? = some y → y.1 ≠ a) ∧ t = (ptr r, .int .u32 a, .int .i64 (i : Int), ()) ∧ H1 = H) ?_ ?_ ⟨0, by omega, by omega, fun j hj => by omega, rfl, rfl⟩
  · rintro k t H1 ⟨i, hi, hk, hno, rfl, rfl⟩ R hR
    by_cases hil : i < L.length
    · have hd : decide ((i : Int) < (L.length : Int)) = true := decide_eq_true (by omega)
      obtain ⟨y, hy⟩ : ∃ y, L[i]? = some y := ⟨_, List.getElem?_eq_getElem hil⟩
      have hym := List.mem_of_getElem? hy
      obtain ⟨p, e1, e2⟩ := pl_at hp hy
      have h3 := ref_open (n := y.2) (a := y.1) hym hs
      obtain ⟨vq, vr, h4⟩ := sat_plA.1 h3
      have gy := (sat_get h4).1
      have hw : IntKind.i64.wrap ((i : Int) + 1) = ((i + 1 : Nat) : Int) := by rw [w64n (by omega)]; omega
      simp only [RS, List.cons_append, List.nil_append, Option.isNone_some, Option.isNone_none, Option.isSome_some, Option.isSome_none, Nat.zero_add, Nat.add_zero, Nat.reduceAdd, List.getElem?_cons_zero, List.getElem?_cons_succ, List.length_cons, List.length_nil, List.all_cons, List.all_nil, Bool.and_self, Bool.and_true, Bool.true_and, Option.bind_some, Nat.reduceLeDiff, Nat.reduceEqDiff, Nat.le_refl, and_self, if_true, if_false, List.drop_zero, List.drop_succ_cons, List.take_zero, List.take_succ_cons, List.take_nil, List.drop_nil, true_and, and_true, decide_true, decide_false, Nat.reduceMul, Nat.zero_mul, Nat.one_mul, Nat.mul_one, g, hlen, hd, e1, e2, gy]
      by_cases hya : y.1 = a
      · have hb : (y.1 == a) = true := by simpa using hya
        simp only [hb, RS, List.cons_append, List.nil_append, Option.isNone_some, Option.isNone_none, Option.isSome_some, Option.isSome_none, Nat.zero_add, Nat.add_zero, Nat.reduceAdd, List.getElem?_cons_zero, List.getElem?_cons_succ, List.length_cons, List.length_nil, List.all_cons, List.all_nil, Bool.and_self, Bool.and_true, Bool.true_and, Option.bind_some, Nat.reduceLeDiff, Nat.reduceEqDiff, Nat.le_refl, and_self, if_true, if_false, List.drop_zero, List.drop_succ_cons, List.take_zero, List.take_succ_cons, List.take_nil, List.drop_nil, true_and, and_true, decide_true, decide_false, Nat.reduceMul, Nat.zero_mul, Nat.one_mul, Nat.mul_one, g, e1, e2]
        subst hya
        exact hK _ _ L hym (.inl rfl) hsW
      · have hb : (y.1 == a) = false := by simpa using hya
        simp only [hb, RS, List.cons_append, List.nil_append, Option.isNone_some, Option.isNone_none, Option.isSome_some, Option.isSome_none, Nat.zero_add, Nat.add_zero, Nat.reduceAdd, List.getElem?_cons_zero, List.getElem?_cons_succ, List.length_cons, List.length_nil, List.all_cons, List.all_nil, Bool.and_self, Bool.and_true, Bool.true_and, Option.bind_some, Nat.reduceLeDiff, Nat.reduceEqDiff, Nat.le_refl, and_self, if_true, if_false, List.drop_zero, List.drop_succ_cons, List.take_zero, List.take_succ_cons, List.take_nil, List.drop_nil, true_and, and_true, decide_true, decide_false, Nat.reduceMul, Nat.zero_mul, Nat.one_mul, Nat.mul_one, hw]
        refine hR _ _ ⟨i + 1, by omega, by omega, fun j hj z hz => ?_, rfl, rfl⟩
        by_cases hji : j = i
        · subst hji; rw [hy] at hz; cases hz; exact hya
        · exact hno j (by omega) z hz
    · have hd : decide ((i : Int) < (L.length : Int)) = false := decide_eq_false (by omega)
      have hna : a ∉ L.map (·.1) := by
        intro hm
        obtain ⟨y, hy, e⟩ := List.mem_map.1 hm
        obtain ⟨j, hj⟩ := List.mem_iff_getElem?.1 hy
        have hjl := (List.getElem?_eq_some_iff.1 hj).1
        exact hno j (by omega) y hj e
      have n1 := sat_new (.cells [.pointer (some ⟨H1.nx, 0, none⟩)] Ty.p_laybyref37_place .fix) (sat_new (.cells (PR.zero.row a (.slice none 0 0) (.slice none 0 0)) Ty.laybyref37_place .fix) h2)
      simp only [AH.nx_new] at n1
      have g1 := (sat_get (sat_sub (sat_new (.cells (PR.zero.row a (.slice none 0 0) (.slice none 0 0)) Ty.laybyref37_place .fix) h2))).1
      have n2 := sat_of_eq (B := ownS Ty.p_laybyref37_place 1 vp (prow L) * (pts (H1.nx + 1) (.cells [.pointer (some ⟨H1.nx, 0, none⟩)] Ty.p_laybyref37_place .fix) * (pts H1.nx (.cells (PR.zero.row a (.slice none 0 0) (.slice none 0 0)) Ty.laybyref37_place .fix) * (pts r (hdR s vp vw) * (ownS Ty.laybyref37_wait 2 vw (wrow ws) * (bigS (plS s) L * F)))))) n1 (by ac_rfl)
      have hpl : (prow L).length = L.length := by unfold prow; simp
      obtain ⟨v', H', e3, n3⟩ := app_own (bytes := 8) (n := 1) (cap := 1) (by omega) n2 rfl rfl (by omega) (by rw [hpl]; simp; omega)
      have hcell := own_cell n3
      have n4 := sat_of_eq (B := pts r (hdR s vp vw) * (ownS Ty.p_laybyref37_place 1 v' (prow (L ++ [(a, H1.nx)])) * (pts (H1.nx + 1) (.cells [.pointer (some ⟨H1.nx, 0, none⟩)] Ty.p_laybyref37_place .fix) * (pts H1.nx (.cells (PR.zero.row a (.slice none 0 0) (.slice none 0 0)) Ty.laybyref37_place .fix) * (ownS Ty.laybyref37_wait 2 vw (wrow ws) * (bigS (plS s) L * F)))))) n3 (by unfold prow; rw [List.map_append]; simp only [List.map_cons, List.map_nil]; ac_rfl)
      have g4 := (sat_get n4).1
      have es : stO 1 r 2 v' H' (some (hdR s vp vw)) = some (.tuple ⟨[]⟩, H'.put r (hdR s v' vw)) := stO_1 _ _ _ _ _ _ _ rfl hcell.1 hcell.2 (by simp)
      have n5 := sat_put (hdR s v' vw) n4
      have hdp : decide (a = a) = true := by simp
      have g1' := g1
      simp only [hdR] at g1' g4 es
      have g2 := g1'
      simp only [PR.zero] at g1' e3 g2
      simp only [RS, List.cons_append, List.nil_append, Option.isNone_some, Option.isNone_none, Option.isSome_some, Option.isSome_none, Nat.zero_add, Nat.add_zero, Nat.reduceAdd, List.getElem?_cons_zero, List.getElem?_cons_succ, List.length_cons, List.length_nil, List.all_cons, List.all_nil, Bool.and_self, Bool.and_true, Bool.true_and, Option.bind_some, Nat.reduceLeDiff, Nat.reduceEqDiff, Nat.le_refl, and_self, if_true, if_false, List.drop_zero, List.drop_succ_cons, List.take_zero, List.take_succ_cons, List.take_nil, List.drop_nil, true_and, and_true, decide_true, decide_false, Nat.reduceMul, Nat.zero_mul, Nat.one_mul, Nat.mul_one, g, hlen, hd, g1', e3, g4, es]
      refine hK H1.nx _ (L ++ [(a, H1.nx)]) (by simp) (.inr ⟨_, rfl⟩) (sat_RefW.2 ⟨v', ⟨?_, ?_, ?_, h1.wnd, h1.wrg, h1.wa⟩, ?_⟩)
      · rw [List.map_append, List.nodup_append]
        exact ⟨h1.nd, by simp, fun b hb c hc e => by simp at hc; subst hc; exact hna (e ▸ hb)⟩
      · intro b hb
        rw [List.map_append, List.mem_append] at hb
        rcases hb with hb | hb
        · exact h1.rg b hb
        · simp at hb; subst hb; exact ha
      · intro b hb
        rw [List.map_append, List.mem_append] at hb
        exact h1.no b fun h => hb (.inl h)
      · rw [bigS_append, bigS_cons, bigS_nil, sep_emp]
        have n6 : sat (H'.put r (hdR s v' vw)) (plS s (a, H1.nx) * (pts r (hdR s v' vw) * (ownS Ty.p_laybyref37_place 1 v' (prow (L ++ [(a, H1.nx)])) * (ownS Ty.laybyref37_wait 2 vw (wrow ws) * (bigS (plS s) L * F))))) := by
          have hz : prOf s a = PR.zero := h1.no a hna
          unfold plS
          rw [show prOf s ((a, H1.nx) : Int × Nat).1 = PR.zero from hz]
          refine sat_plA.2 ⟨.slice none 0 0, .slice none 0 0, ?_⟩
          have n7 : sat (H'.put r (hdR s v' vw)) (pts H1.nx (.cells (PR.zero.row a (.slice none 0 0) (.slice none 0 0)) Ty.laybyref37_place .fix) * (pts r (hdR s v' vw) * (ownS Ty.p_laybyref37_place 1 v' (prow (L ++ [(a, H1.nx)])) * (ownS Ty.laybyref37_wait 2 vw (wrow ws) * (bigS (plS s) L * F))))) := sat_sub (A := pts (H1.nx + 1) (.cells [.pointer (some ⟨H1.nx, 0, none⟩)] Ty.p_laybyref37_place .fix)) (sat_of_eq n5 (by ac_rfl))
          have n8 := slice_nil (x := true) (slice_nil (x := true) n7)
          exact sat_of_eq n8 (by show _ = _ * (sliceA true _ [] * (sliceA true _ [] * _)); ac_rfl)
        exact sat_of_eq n6 (by ac_rfl)
  · rintro t H1 ⟨i, h1, h2, -⟩; omega
theorem at_ok {L : PL} (ha : 0 ≤ a ∧ a < 4294967296) (hs : sat H (RefL r s L * F)) (hK : ∀ n H' L', (a, n) ∈ L' → (L' = L ∨ ∃ m, L' = L ++ [(a, m)]) → sat H' (RefL r s L' * F) → K (ptr n) H') : DS Tryz.prog Fi.laybyref37_State_at [ptr r, .int .u32 a] H K := by
  obtain ⟨vw, ws, h⟩ := RefL_W hs
  exact atW_ok ha h fun n H' L' h1 h2 h3 => hK n H' L' h1 h2 (RefW_L h3)
end
end Go.Proofs.YtiolnpeniklhiaaGreatDoor
