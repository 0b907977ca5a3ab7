/- The abstract system's deeds: waits, onces, locks; closures that ask.
   Conditions: what stands in memory, as each states it. -/
import Derived.Test.YtiolnpeniklhiaaGreatDoorSpec6
namespace Go.Proofs.YtiolnpeniklhiaaGreatDoor
open Go Go.Ab
set_option linter.all false
set_option maxRecDepth 100000
section
variable {A : SL}
/-! ### waits -/
theorem w_look {H : AH} {d : DX} {s : SS} {F : SL} (hd : d.rel s) (h : sat H (mapA .i64 d.mw d.Dw waF * F)) (t : Int) :
    lkO (.int .i64) (.int .u32 0) true (.int .i64 (t + 1)) (H.get d.mw) = some (.tuple ⟨[.int .u32 ((s.wa t).getD 0), .bool (s.wa t).isSome]⟩) := by
  obtain ⟨o, e, c⟩ := map_look (k := t + 1) (z := .int .u32 0) (ok := true) h
  rw [e]
  rcases c with ⟨rfl, hn⟩ | ⟨v, y, rfl, hx, h2⟩
  · rw [hd.wa, hn]; rfl
  · rw [hd.wa, hx]
    obtain ⟨rfl, -⟩ := sat_lift.1 h2
    rfl
theorem upd_rel_w {d : DX} {s : SS} (hd : d.rel s) (t : Int) (x : Option Int) : ({ d with Dw := upd d.Dw (t + 1) x } : DX).rel { s with wa := upd s.wa t x } := by
  refine ⟨hd.q, hd.ow, hd.lk, hd.on, fun b => ?_⟩
  by_cases hb : b = t
  · subst hb; simp [upd_self]
  · rw [show ({ s with wa := upd s.wa t x } : SS).wa b = s.wa b from upd_ne _ _ hb, hd.wa]
    exact (upd_ne _ _ (by omega)).symm
theorem w_set {H : AH} {d : DX} {s : SS} {F : SL} {p : Nat} {t x : Int} (hd : d.rel s) (h : sat H (pts p (d.hd s) * (d.maps * F))) :
    ∃ H', muO d.mw (.int .i64) (.int .i64 (t + 1)) (.int .u32 x) H (H.get d.mw) = some (.tuple ⟨[]⟩, H') ∧ sat H' (StR p { s with wa := upd s.wa t (some x) } * F) := by
  have h1 : sat H (mapA .i64 d.mw d.Dw waF * (waF (t + 1) x (.int .u32 x) * (pts p (d.hd s) * (mapA .u32 d.mq d.Dq qF * (mapA .u32 d.mo d.Do owF * (mapA .u32 d.ml d.Dl lkF * (mapA .u32 d.mn d.Dn onF * F))))))) := by
    rw [sep_left_comm]
    exact sat_lift.2 ⟨rfl, maps_w h⟩
  obtain ⟨H', e, h2⟩ := map_set h1
  refine ⟨H', e, sat_StR.2 ⟨{ d with Dw := upd d.Dw (t + 1) (some x) }, upd_rel_w hd t (some x), sat_of_eq h2 ?_⟩⟩
  simp only [DX.maps, DX.hd, hdS]
  ac_rfl
theorem w_del {H : AH} {d : DX} {s : SS} {F : SL} {p : Nat} {t : Int} (hd : d.rel s) (h : sat H (pts p (d.hd s) * (d.maps * F))) :
    ∃ H', delO d.mw (.int .i64) (.int .i64 (t + 1)) H (H.get d.mw) = some (.tuple ⟨[]⟩, H') ∧ sat H' (StR p { s with wa := upd s.wa t none } * F) := by
  obtain ⟨H', e, h2⟩ := map_del (k := t + 1) (maps_w h)
  refine ⟨H', e, sat_StR.2 ⟨{ d with Dw := upd d.Dw (t + 1) none }, upd_rel_w hd t none, sat_of_eq h2 ?_⟩⟩
  simp only [DX.maps, DX.hd, hdS]
  ac_rfl
theorem m29 : MayP A 29 (fv Fi.specs_waitDeeds_1) := by
  intro p s n H F K ho hn hk hs hK
  simp only [RS, List.cons_append, List.nil_append, Option.isNone_some, Option.isNone_none, Option.isSome_some, Option.isSome_none, Nat.zero_add, Nat.add_zero, Nat.reduceAdd, List.getElem?_cons_zero, List.getElem?_cons_succ, List.length_cons, List.length_nil, List.all_cons, List.all_nil, Bool.and_self, Bool.and_true, Bool.true_and, Option.bind_some, Nat.reduceLeDiff, Nat.reduceEqDiff, Nat.le_refl, and_self, if_true, if_false, List.drop_zero, List.drop_succ_cons, List.take_zero, List.take_succ_cons, List.take_nil, List.drop_nil, true_and, and_true, decide_true, decide_false, Nat.reduceMul, Nat.zero_mul, Nat.one_mul, Nat.mul_one]
  refine use_specs_waitDeeds_1 0 ?_
  unfold sh_specs_waitDeeds_1
  obtain ⟨h, g⟩ := note_new (n := n) hs
  obtain ⟨d, hd, h1⟩ := sat_StR.1 h
  have gp := (sat_get h1).1
  have hw : IntKind.i64.wrap (n.thread + 1) = n.thread + 1 := w64n (by have := hn.th; omega)
  simp only [DX.hd, hdS] at gp
  simp only [RS, List.cons_append, List.nil_append, Option.isNone_some, Option.isNone_none, Option.isSome_some, Option.isSome_none, Nat.zero_add, Nat.add_zero, Nat.reduceAdd, List.getElem?_cons_zero, List.getElem?_cons_succ, List.length_cons, List.length_nil, List.all_cons, List.all_nil, Bool.and_self, Bool.and_true, Bool.true_and, Option.bind_some, Nat.reduceLeDiff, Nat.reduceEqDiff, Nat.le_refl, and_self, if_true, if_false, List.drop_zero, List.drop_succ_cons, List.take_zero, List.take_succ_cons, List.take_nil, List.drop_nil, true_and, and_true, decide_true, decide_false, Nat.reduceMul, Nat.zero_mul, Nat.one_mul, Nat.mul_one, g, gp, hw, w_look hd (maps_w h1)]
  have : mayB 29 s n = !(s.wa n.thread).isSome := by simp only [mayB]; cases s.wa n.thread <;> rfl
  rw [this] at hK
  exact hK _ (note_drop h)
theorem t29 : ThenP A 29 (fv Fi.specs_waitDeeds_2) := by
  intro p s n H F K ho hn hk hm hs hK
  simp only [RS, List.cons_append, List.nil_append, Option.isNone_some, Option.isNone_none, Option.isSome_some, Option.isSome_none, Nat.zero_add, Nat.add_zero, Nat.reduceAdd, List.getElem?_cons_zero, List.getElem?_cons_succ, List.length_cons, List.length_nil, List.all_cons, List.all_nil, Bool.and_self, Bool.and_true, Bool.true_and, Option.bind_some, Nat.reduceLeDiff, Nat.reduceEqDiff, Nat.le_refl, and_self, if_true, if_false, List.drop_zero, List.drop_succ_cons, List.take_zero, List.take_succ_cons, List.take_nil, List.drop_nil, true_and, and_true, decide_true, decide_false, Nat.reduceMul, Nat.zero_mul, Nat.one_mul, Nat.mul_one]
  refine use_specs_waitDeeds_2 0 ?_
  unfold sh_specs_waitDeeds_2
  obtain ⟨h, g⟩ := note_new (n := n) hs
  obtain ⟨d, hd, h1⟩ := sat_StR.1 h
  have gp := (sat_get h1).1
  have hw : IntKind.i64.wrap (n.thread + 1) = n.thread + 1 := w64n (by have := hn.th; omega)
  obtain ⟨H', e, h2⟩ := w_set (t := n.thread) (x := n.addr) hd h1
  simp only [DX.hd, hdS] at gp
  simp only [RS, List.cons_append, List.nil_append, Option.isNone_some, Option.isNone_none, Option.isSome_some, Option.isSome_none, Nat.zero_add, Nat.add_zero, Nat.reduceAdd, List.getElem?_cons_zero, List.getElem?_cons_succ, List.length_cons, List.length_nil, List.all_cons, List.all_nil, Bool.and_self, Bool.and_true, Bool.true_and, Option.bind_some, Nat.reduceLeDiff, Nat.reduceEqDiff, Nat.le_refl, and_self, if_true, if_false, List.drop_zero, List.drop_succ_cons, List.take_zero, List.take_succ_cons, List.take_nil, List.drop_nil, true_and, and_true, decide_true, decide_false, Nat.reduceMul, Nat.zero_mul, Nat.one_mul, Nat.mul_one, g, gp, hw, e]
  exact hK _ (note_drop h2)
theorem m32 : MayP A 32 (fv Fi.specs_waitDeeds_3) := by
  intro p s n H F K ho hn hk hs hK
  simp only [RS, List.cons_append, List.nil_append, Option.isNone_some, Option.isNone_none, Option.isSome_some, Option.isSome_none, Nat.zero_add, Nat.add_zero, Nat.reduceAdd, List.getElem?_cons_zero, List.getElem?_cons_succ, List.length_cons, List.length_nil, List.all_cons, List.all_nil, Bool.and_self, Bool.and_true, Bool.true_and, Option.bind_some, Nat.reduceLeDiff, Nat.reduceEqDiff, Nat.le_refl, and_self, if_true, if_false, List.drop_zero, List.drop_succ_cons, List.take_zero, List.take_succ_cons, List.take_nil, List.drop_nil, true_and, and_true, decide_true, decide_false, Nat.reduceMul, Nat.zero_mul, Nat.one_mul, Nat.mul_one]
  refine use_specs_waitDeeds_3 0 ?_
  unfold sh_specs_waitDeeds_3
  obtain ⟨h, g⟩ := note_new (n := n) hs
  obtain ⟨d, hd, h1⟩ := sat_StR.1 h
  have gp := (sat_get h1).1
  obtain ⟨v, G, e, h2⟩ := q_look hd (maps_q h1) n.addr
  simp only [DX.hd, hdS] at gp
  simp only [RS, List.cons_append, List.nil_append, Option.isNone_some, Option.isNone_none, Option.isSome_some, Option.isSome_none, Nat.zero_add, Nat.add_zero, Nat.reduceAdd, List.getElem?_cons_zero, List.getElem?_cons_succ, List.length_cons, List.length_nil, List.all_cons, List.all_nil, Bool.and_self, Bool.and_true, Bool.true_and, Option.bind_some, Nat.reduceLeDiff, Nat.reduceEqDiff, Nat.le_refl, and_self, if_true, if_false, List.drop_zero, List.drop_succ_cons, List.take_zero, List.take_succ_cons, List.take_nil, List.drop_nil, true_and, and_true, decide_true, decide_false, Nat.reduceMul, Nat.zero_mul, Nat.one_mul, Nat.mul_one, g, gp, e, (slice_row h2).len]
  exact hK _ (note_drop h)
/-- A fault, or none. -/
noncomputable def fltS (k : Nat) (s : SS) (n : NV) : Int :=
  bif k == 30 || k == 31 then bif decide (s.wa n.thread = some n.addr) then bif decide (n.thread ∈ s.q n.addr) then 2 else 0 else 3
  else bif mayB k s n then 0 else bif decide (k ≤ 5) || k == 32 then 2 else 3
noncomputable def deedS (k : Nat) (s : SS) (n : NV) : SS := bif fltS k s n == 0 then thenS k s n else s
/-- What a deed does. -/
def DeedP (A : SL) (k : Nat) (m : Value) : Prop := ∀ (p : Nat) (s : SS) (n : NV) (H : AH) (F : SL) (K : KV), s.ok → n.ok → n.kind = k → sat H (StR p s * (A * F)) → (∀ H', sat H' (StR p (deedS k s n) * (A * F)) → K (.int .u8 (fltS k s n)) H') → callV (DS Tryz.prog) m [ptr p, n.val] H K
theorem gives_ok (k : Nat) (hk2 : k = 30 ∨ k = 31) : DeedP A k (fv Fi.specs_gives) := by
  intro p s n H F K ho hn hk hs hK
  simp only [RS, List.cons_append, List.nil_append, Option.isNone_some, Option.isNone_none, Option.isSome_some, Option.isSome_none, Nat.zero_add, Nat.add_zero, Nat.reduceAdd, List.getElem?_cons_zero, List.getElem?_cons_succ, List.length_cons, List.length_nil, List.all_cons, List.all_nil, Bool.and_self, Bool.and_true, Bool.true_and, Option.bind_some, Nat.reduceLeDiff, Nat.reduceEqDiff, Nat.le_refl, and_self, if_true, if_false, List.drop_zero, List.drop_succ_cons, List.take_zero, List.take_succ_cons, List.take_nil, List.drop_nil, true_and, and_true, decide_true, decide_false, Nat.reduceMul, Nat.zero_mul, Nat.one_mul, Nat.mul_one]
  refine use_specs_gives 0 ?_
  unfold sh_specs_gives
  obtain ⟨h, g⟩ := note_new (n := n) hs
  obtain ⟨d, hd, h1⟩ := sat_StR.1 h
  have gp := (sat_get h1).1
  have hw : IntKind.i64.wrap (n.thread + 1) = n.thread + 1 := w64n (by have := hn.th; omega)
  have hk3 : (k == 30 || k == 31) = true := by simpa using hk2
  have ht : thenS k s n = { s with wa := upd s.wa n.thread none } := by rcases hk2 with rfl | rfl <;> rfl
  simp only [DX.hd, hdS] at gp
  simp only [RS, List.cons_append, List.nil_append, Option.isNone_some, Option.isNone_none, Option.isSome_some, Option.isSome_none, Nat.zero_add, Nat.add_zero, Nat.reduceAdd, List.getElem?_cons_zero, List.getElem?_cons_succ, List.length_cons, List.length_nil, List.all_cons, List.all_nil, Bool.and_self, Bool.and_true, Bool.true_and, Option.bind_some, Nat.reduceLeDiff, Nat.reduceEqDiff, Nat.le_refl, and_self, if_true, if_false, List.drop_zero, List.drop_succ_cons, List.take_zero, List.take_succ_cons, List.take_nil, List.drop_nil, true_and, and_true, decide_true, decide_false, Nat.reduceMul, Nat.zero_mul, Nat.one_mul, Nat.mul_one, g, gp, hw, w_look hd (maps_w h1)]
  cases hwa : s.wa n.thread with
  | none =>
    have hf : fltS k s n = 3 := by simp [fltS, hk3, hwa]
    have hde : deedS k s n = s := by simp [deedS, hf]
    rw [hf, hde] at hK
    simp only [RS, List.cons_append, List.nil_append, Option.isNone_some, Option.isNone_none, Option.isSome_some, Option.isSome_none, Nat.zero_add, Nat.add_zero, Nat.reduceAdd, List.getElem?_cons_zero, List.getElem?_cons_succ, List.length_cons, List.length_nil, List.all_cons, List.all_nil, Bool.and_self, Bool.and_true, Bool.true_and, Option.bind_some, Nat.reduceLeDiff, Nat.reduceEqDiff, Nat.le_refl, and_self, if_true, if_false, List.drop_zero, List.drop_succ_cons, List.take_zero, List.take_succ_cons, List.take_nil, List.drop_nil, true_and, and_true, decide_true, decide_false, Nat.reduceMul, Nat.zero_mul, Nat.one_mul, Nat.mul_one, Option.isSome_none, Option.getD_none, Bool.not_false]
    exact hK _ (note_drop h)
  | some b =>
    simp only [RS, List.cons_append, List.nil_append, Option.isNone_some, Option.isNone_none, Option.isSome_some, Option.isSome_none, Nat.zero_add, Nat.add_zero, Nat.reduceAdd, List.getElem?_cons_zero, List.getElem?_cons_succ, List.length_cons, List.length_nil, List.all_cons, List.all_nil, Bool.and_self, Bool.and_true, Bool.true_and, Option.bind_some, Nat.reduceLeDiff, Nat.reduceEqDiff, Nat.le_refl, and_self, if_true, if_false, List.drop_zero, List.drop_succ_cons, List.take_zero, List.take_succ_cons, List.take_nil, List.drop_nil, true_and, and_true, decide_true, decide_false, Nat.reduceMul, Nat.zero_mul, Nat.one_mul, Nat.mul_one, Option.isSome_some, Option.getD_some, Bool.not_true, g]
    by_cases hb : b = n.addr
    · subst hb
      have e0 : (n.addr != n.addr) = false := by simp
      simp only [e0, RS, List.cons_append, List.nil_append, Option.isNone_some, Option.isNone_none, Option.isSome_some, Option.isSome_none, Nat.zero_add, Nat.add_zero, Nat.reduceAdd, List.getElem?_cons_zero, List.getElem?_cons_succ, List.length_cons, List.length_nil, List.all_cons, List.all_nil, Bool.and_self, Bool.and_true, Bool.true_and, Option.bind_some, Nat.reduceLeDiff, Nat.reduceEqDiff, Nat.le_refl, and_self, if_true, if_false, List.drop_zero, List.drop_succ_cons, List.take_zero, List.take_succ_cons, List.take_nil, List.drop_nil, true_and, and_true, decide_true, decide_false, Nat.reduceMul, Nat.zero_mul, Nat.one_mul, Nat.mul_one, g]
      refine queued_ok ho h ?_
      by_cases hq : n.thread ∈ s.q n.addr
      · have hq' : decide (n.thread ∈ s.q n.addr) = true := by simpa using hq
        have hf : fltS k s n = 2 := by simp [fltS, hk3, hwa, hq]
        have hde : deedS k s n = s := by simp [deedS, hf]
        rw [hf, hde] at hK
        simp only [hq', RS, List.cons_append, List.nil_append, Option.isNone_some, Option.isNone_none, Option.isSome_some, Option.isSome_none, Nat.zero_add, Nat.add_zero, Nat.reduceAdd, List.getElem?_cons_zero, List.getElem?_cons_succ, List.length_cons, List.length_nil, List.all_cons, List.all_nil, Bool.and_self, Bool.and_true, Bool.true_and, Option.bind_some, Nat.reduceLeDiff, Nat.reduceEqDiff, Nat.le_refl, and_self, if_true, if_false, List.drop_zero, List.drop_succ_cons, List.take_zero, List.take_succ_cons, List.take_nil, List.drop_nil, true_and, and_true, decide_true, decide_false, Nat.reduceMul, Nat.zero_mul, Nat.one_mul, Nat.mul_one]
        exact hK _ (note_drop h)
      · have hq' : decide (n.thread ∈ s.q n.addr) = false := by simpa using hq
        have hf : fltS k s n = 0 := by simp [fltS, hk3, hwa, hq]
        have hde : deedS k s n = { s with wa := upd s.wa n.thread none } := by simp [deedS, hf, ht]
        rw [hf, hde] at hK
        obtain ⟨H', e, h2⟩ := w_del (t := n.thread) hd h1
        simp only [hq', RS, List.cons_append, List.nil_append, Option.isNone_some, Option.isNone_none, Option.isSome_some, Option.isSome_none, Nat.zero_add, Nat.add_zero, Nat.reduceAdd, List.getElem?_cons_zero, List.getElem?_cons_succ, List.length_cons, List.length_nil, List.all_cons, List.all_nil, Bool.and_self, Bool.and_true, Bool.true_and, Option.bind_some, Nat.reduceLeDiff, Nat.reduceEqDiff, Nat.le_refl, and_self, if_true, if_false, List.drop_zero, List.drop_succ_cons, List.take_zero, List.take_succ_cons, List.take_nil, List.drop_nil, true_and, and_true, decide_true, decide_false, Nat.reduceMul, Nat.zero_mul, Nat.one_mul, Nat.mul_one, g, gp, hw, e]
        exact hK _ (note_drop h2)
    · have e0 : (b != n.addr) = true := by simpa using hb
      have hf : fltS k s n = 3 := by simp [fltS, hk3, hwa, hb]
      have hde : deedS k s n = s := by simp [deedS, hf]
      rw [hf, hde] at hK
      simp only [e0, RS, List.cons_append, List.nil_append, Option.isNone_some, Option.isNone_none, Option.isSome_some, Option.isSome_none, Nat.zero_add, Nat.add_zero, Nat.reduceAdd, List.getElem?_cons_zero, List.getElem?_cons_succ, List.length_cons, List.length_nil, List.all_cons, List.all_nil, Bool.and_self, Bool.and_true, Bool.true_and, Option.bind_some, Nat.reduceLeDiff, Nat.reduceEqDiff, Nat.le_refl, and_self, if_true, if_false, List.drop_zero, List.drop_succ_cons, List.take_zero, List.take_succ_cons, List.take_nil, List.drop_nil, true_and, and_true, decide_true, decide_false, Nat.reduceMul, Nat.zero_mul, Nat.one_mul, Nat.mul_one]
      exact hK _ (note_drop h)

/-! ### onces -/
def StN (p : Nat) (s : SS) (a : Int) (v : Value) : SL := ex fun d : DX => lift (d.rel s) * (pts p (d.hd s) * (mapX .u32 d.mn d.Dn onF a v * (mapA .u32 d.mq d.Dq qF * (mapA .u32 d.mo d.Do owF * (mapA .u32 d.ml d.Dl lkF * mapA .i64 d.mw d.Dw waF)))))
theorem sat_StN {H : AH} {p : Nat} {s : SS} {F : SL} {a : Int} {v : Value} : sat H (StN p s a v * F) ↔ ∃ d : DX, d.rel s ∧ sat H (pts p (d.hd s) * (mapX .u32 d.mn d.Dn onF a v * (mapA .u32 d.mq d.Dq qF * (mapA .u32 d.mo d.Do owF * (mapA .u32 d.ml d.Dl lkF * (mapA .i64 d.mw d.Dw waF * F)))))) := by
  unfold StN
  rw [sat_exS]
  constructor
  · rintro ⟨d, h⟩
    rw [sep_assoc, sat_lift] at h
    exact ⟨d, h.1, sat_of_eq h.2 (by ac_rfl)⟩
  · rintro ⟨d, h1, h⟩
    refine ⟨d, ?_⟩
    rw [sep_assoc, sat_lift]
    exact ⟨h1, sat_of_eq h (by ac_rfl)⟩
theorem upd_rel_n {d : DX} {s : SS} (hd : d.rel s) (a : Int) (x : OnS) : ({ d with Dn := upd d.Dn a (some x) } : DX).rel { s with on := upd s.on a x } := by
  refine ⟨hd.q, hd.ow, hd.lk, fun b => ?_, hd.wa⟩
  by_cases hb : b = a
  · subst hb; simp [upd_self]
  · simp [upd_ne _ _ hb, hd.on]
def onP (n : Nat) (x : OnS) : SL := pts n (.cells [.int .i64 x.by_, .bool x.dn, .bool x.sk] Ty.specs_once .fix)
theorem once_close {H : AH} {p n : Nat} {s : SS} {F : SL} {a : Int} {x : OnS} (h : sat H (onP n x * (StN p s a (ptr n) * F))) : sat H (StR p { s with on := upd s.on a x } * F) := by
  obtain ⟨d, hd, h1⟩ := sat_StN.1 (sep_left_comm (onP n x) (StN p s a (ptr n)) F ▸ h)
  have h2 : sat H (onF a x (ptr n) * (mapX .u32 d.mn d.Dn onF a (ptr n) * (pts p (d.hd s) * (mapA .u32 d.mq d.Dq qF * (mapA .u32 d.mo d.Do owF * (mapA .u32 d.ml d.Dl lkF * (mapA .i64 d.mw d.Dw waF * F))))))) := by
    unfold onF
    rw [sat_exS]
    refine ⟨n, ?_⟩
    rw [sep_assoc, sat_lift]
    exact ⟨rfl, sat_of_eq h1 (by unfold onP; ac_rfl)⟩
  refine sat_StR.2 ⟨{ d with Dn := upd d.Dn a (some x) }, upd_rel_n hd a x, sat_of_eq (map_close h2) ?_⟩
  simp only [DX.maps, DX.hd, hdS]
  ac_rfl
theorem upd_on_id (s : SS) (a : Int) : ({ s with on := upd s.on a (s.on a) } : SS) = s := by
  have : upd s.on a (s.on a) = s.on := upd_id _ rfl
  rw [this]
theorem once_close' {H : AH} {p n : Nat} {s : SS} {F : SL} {a : Int} (h : sat H (onP n (s.on a) * (StN p s a (ptr n) * F))) : sat H (StR p s * F) := by
  have := once_close h
  rwa [upd_on_id] at this
theorem once_ok {H : AH} {p : Nat} {s : SS} {F : SL} {a : Int} {K : KV} (hs : sat H (StR p s * F)) (hK : ∀ n H', sat H' (onP n (s.on a) * (StN p s a (ptr n) * F)) → K (ptr n) H') : DS Tryz.prog Fi.specs_State_once [ptr p, .int .u32 a] H K := by
  refine use_specs_State_once 0 ?_
  unfold sh_specs_State_once
  obtain ⟨d, hd, h⟩ := sat_StR.1 hs
  have g := (sat_get h).1
  obtain ⟨o, e, c⟩ := map_look (k := a) (z := .pointer none) (ok := false) (maps_n h)
  simp only [RS, List.cons_append, List.nil_append, Option.isNone_some, Option.isNone_none, Option.isSome_some, Option.isSome_none, Nat.zero_add, Nat.add_zero, Nat.reduceAdd, List.getElem?_cons_zero, List.getElem?_cons_succ, List.length_cons, List.length_nil, List.all_cons, List.all_nil, Bool.and_self, Bool.and_true, Bool.true_and, Option.bind_some, Nat.reduceLeDiff, Nat.reduceEqDiff, Nat.le_refl, and_self, if_true, if_false, List.drop_zero, List.drop_succ_cons, List.take_zero, List.take_succ_cons, List.take_nil, List.drop_nil, true_and, and_true, decide_true, decide_false, Nat.reduceMul, Nat.zero_mul, Nat.one_mul, Nat.mul_one, g, DX.hd, hdS, e, lkV]
  have open_on : ∀ {H' : AH} {x : OnS} {v : Value} {G : SL}, sat H' (onF a x v * G) → ∃ n, v = ptr n ∧ sat H' (onP n x * G) := by
    intro H' x v G h'
    unfold onF at h'
    rw [sat_exS] at h'
    obtain ⟨n, h'⟩ := h'
    rw [sep_assoc, sat_lift] at h'
    exact ⟨n, h'⟩
  rcases c with ⟨rfl, hn⟩ | ⟨v, x, rfl, hx, h2⟩
  · have h1 := sat_new (.cells [.int .i64 0, .bool false, .bool false] Ty.specs_once .fix) h
    have gp := (sat_get (sat_sub h1)).1
    have h4 : sat (H.new (.cells [.int .i64 0, .bool false, .bool false] Ty.specs_once .fix)) (mapA .u32 d.mn d.Dn onF * (onF a .zero (ptr H.nx) * (pts p (d.hd s) * (mapA .u32 d.mq d.Dq qF * (mapA .u32 d.mo d.Do owF * (mapA .u32 d.ml d.Dl lkF * (mapA .i64 d.mw d.Dw waF * F))))))) := by
      have h5 : sat (H.new (.cells [.int .i64 0, .bool false, .bool false] Ty.specs_once .fix)) (onF a .zero (ptr H.nx) * (pts p (d.hd s) * (d.maps * F))) := by
        unfold onF
        rw [sat_exS]
        refine ⟨H.nx, ?_⟩
        rw [sep_assoc, sat_lift]
        exact ⟨rfl, h1⟩
      exact sat_of_eq h5 (by unfold DX.maps; ac_rfl)
    obtain ⟨H2, e2, h6⟩ := map_set h4
    simp only [DX.hd, hdS] at gp
    simp only [RS, List.cons_append, List.nil_append, Option.isNone_some, Option.isNone_none, Option.isSome_some, Option.isSome_none, Nat.zero_add, Nat.add_zero, Nat.reduceAdd, List.getElem?_cons_zero, List.getElem?_cons_succ, List.length_cons, List.length_nil, List.all_cons, List.all_nil, Bool.and_self, Bool.and_true, Bool.true_and, Option.bind_some, Nat.reduceLeDiff, Nat.reduceEqDiff, Nat.le_refl, and_self, if_true, if_false, List.drop_zero, List.drop_succ_cons, List.take_zero, List.take_succ_cons, List.take_nil, List.drop_nil, true_and, and_true, decide_true, decide_false, Nat.reduceMul, Nat.zero_mul, Nat.one_mul, Nat.mul_one, gp, e2]
    obtain ⟨w, h7⟩ := map_open (k := a) (x := OnS.zero) h6 (upd_self _ _ _)
    have hw : w = ptr H.nx := by
      have hl := map_look_some (sat_sub h7) (.pointer none) false
      obtain ⟨l, es, clk, q1, q2, q3⟩ := sat_mapA.1 h4
      obtain ⟨l', es', clk', r1, r2, r3, r4⟩ := q1.mu a (ptr H.nx)
      rw [(sat_get q3).1, r1] at e2
      simp only [Option.some.injEq, Prod.mk.injEq, true_and] at e2
      subst e2
      rw [AH.get_put, if_pos rfl, r2.lk, r3, if_pos rfl] at hl
      simpa [lkV] using hl.symm
    subst hw
    obtain ⟨n, hn', h8⟩ := open_on h7
    have hn2 : n = H.nx := by
      simp only [ptr, Value.pointer.injEq, Option.some.injEq, Addr.mk.injEq, and_true] at hn'
      exact hn'.symm
    subst hn2
    refine hK _ _ ?_
    have hz : s.on a = .zero := by rw [hd.on, hn]; rfl
    rw [hz]
    refine sat_of_eq (sat_StN (s := s) (v := ptr H.nx) (F := onP H.nx .zero * F).2 ⟨{ d with Dn := upd d.Dn a (some .zero) }, ?_, sat_of_eq h8 ?_⟩) (by ac_rfl)
    · have h9 := upd_rel_n hd a .zero
      have : ({ s with on := upd s.on a .zero } : SS) = s := by rw [← hz]; exact upd_on_id s a
      rwa [this] at h9
    · simp only [DX.hd, hdS]; ac_rfl
  · obtain ⟨n, rfl, h8⟩ := open_on h2
    simp only [RS, List.cons_append, List.nil_append, Option.isNone_some, Option.isNone_none, Option.isSome_some, Option.isSome_none, Nat.zero_add, Nat.add_zero, Nat.reduceAdd, List.getElem?_cons_zero, List.getElem?_cons_succ, List.length_cons, List.length_nil, List.all_cons, List.all_nil, Bool.and_self, Bool.and_true, Bool.true_and, Option.bind_some, Nat.reduceLeDiff, Nat.reduceEqDiff, Nat.le_refl, and_self, if_true, if_false, List.drop_zero, List.drop_succ_cons, List.take_zero, List.take_succ_cons, List.take_nil, List.drop_nil, true_and, and_true, decide_true, decide_false, Nat.reduceMul, Nat.zero_mul, Nat.one_mul, Nat.mul_one]
    refine hK _ _ ?_
    have hz : s.on a = x := by rw [hd.on, hx]; rfl
    rw [hz]
    exact sat_of_eq (sat_StN (s := s) (v := ptr n) (F := onP n x * F).2 ⟨d, hd, sat_of_eq h8 (by ac_rfl)⟩) (by ac_rfl)
theorem on_note {H : AH} {p m k : Nat} {s : SS} {n : NV} {a : Int} {x : OnS} {G : SL} (h : sat H (onP m x * (StN p s a (ptr m) * (pts k (.cells n.row Ty.notes_Note .fix) * G)))) : H.get k = some (.cells n.row Ty.notes_Note .fix) :=
  (sat_get (sat_sub (sat_sub h))).1
theorem m33 : MayP A 33 (fv Fi.specs_onceDeeds_2) := by
  intro p s n H F K ho hn hk hs hK
  simp only [RS, List.cons_append, List.nil_append, Option.isNone_some, Option.isNone_none, Option.isSome_some, Option.isSome_none, Nat.zero_add, Nat.add_zero, Nat.reduceAdd, List.getElem?_cons_zero, List.getElem?_cons_succ, List.length_cons, List.length_nil, List.all_cons, List.all_nil, Bool.and_self, Bool.and_true, Bool.true_and, Option.bind_some, Nat.reduceLeDiff, Nat.reduceEqDiff, Nat.le_refl, and_self, if_true, if_false, List.drop_zero, List.drop_succ_cons, List.take_zero, List.take_succ_cons, List.take_nil, List.drop_nil, true_and, and_true, decide_true, decide_false, Nat.reduceMul, Nat.zero_mul, Nat.one_mul, Nat.mul_one]
  refine use_specs_onceDeeds_2 0 ?_
  unfold sh_specs_onceDeeds_2
  obtain ⟨h, g⟩ := note_new (n := n) hs
  simp only [RS, List.cons_append, List.nil_append, Option.isNone_some, Option.isNone_none, Option.isSome_some, Option.isSome_none, Nat.zero_add, Nat.add_zero, Nat.reduceAdd, List.getElem?_cons_zero, List.getElem?_cons_succ, List.length_cons, List.length_nil, List.all_cons, List.all_nil, Bool.and_self, Bool.and_true, Bool.true_and, Option.bind_some, Nat.reduceLeDiff, Nat.reduceEqDiff, Nat.le_refl, and_self, if_true, if_false, List.drop_zero, List.drop_succ_cons, List.take_zero, List.take_succ_cons, List.take_nil, List.drop_nil, true_and, and_true, decide_true, decide_false, Nat.reduceMul, Nat.zero_mul, Nat.one_mul, Nat.mul_one, g]
  refine once_ok h fun m H1 h1 => ?_
  have g1 := (sat_get h1).1
  have gn := on_note h1
  simp only [RS, List.cons_append, List.nil_append, Option.isNone_some, Option.isNone_none, Option.isSome_some, Option.isSome_none, Nat.zero_add, Nat.add_zero, Nat.reduceAdd, List.getElem?_cons_zero, List.getElem?_cons_succ, List.length_cons, List.length_nil, List.all_cons, List.all_nil, Bool.and_self, Bool.and_true, Bool.true_and, Option.bind_some, Nat.reduceLeDiff, Nat.reduceEqDiff, Nat.le_refl, and_self, if_true, if_false, List.drop_zero, List.drop_succ_cons, List.take_zero, List.take_succ_cons, List.take_nil, List.drop_nil, true_and, and_true, decide_true, decide_false, Nat.reduceMul, Nat.zero_mul, Nat.one_mul, Nat.mul_one, g1]
  cases hb : ((s.on n.addr).by_ == 0) with
  | false =>
    have : mayB 33 s n = false := by simp only [mayB, hb, Bool.false_and]
    rw [this] at hK
    simp only [RS, List.cons_append, List.nil_append, Option.isNone_some, Option.isNone_none, Option.isSome_some, Option.isSome_none, Nat.zero_add, Nat.add_zero, Nat.reduceAdd, List.getElem?_cons_zero, List.getElem?_cons_succ, List.length_cons, List.length_nil, List.all_cons, List.all_nil, Bool.and_self, Bool.and_true, Bool.true_and, Option.bind_some, Nat.reduceLeDiff, Nat.reduceEqDiff, Nat.le_refl, and_self, if_true, if_false, List.drop_zero, List.drop_succ_cons, List.take_zero, List.take_succ_cons, List.take_nil, List.drop_nil, true_and, and_true, decide_true, decide_false, Nat.reduceMul, Nat.zero_mul, Nat.one_mul, Nat.mul_one]
    exact hK _ (note_drop (once_close' h1))
  | true =>
    have : mayB 33 s n = !(s.on n.addr).dn := by simp only [mayB, hb, Bool.true_and]
    rw [this] at hK
    simp only [RS, List.cons_append, List.nil_append, Option.isNone_some, Option.isNone_none, Option.isSome_some, Option.isSome_none, Nat.zero_add, Nat.add_zero, Nat.reduceAdd, List.getElem?_cons_zero, List.getElem?_cons_succ, List.length_cons, List.length_nil, List.all_cons, List.all_nil, Bool.and_self, Bool.and_true, Bool.true_and, Option.bind_some, Nat.reduceLeDiff, Nat.reduceEqDiff, Nat.le_refl, and_self, if_true, if_false, List.drop_zero, List.drop_succ_cons, List.take_zero, List.take_succ_cons, List.take_nil, List.drop_nil, true_and, and_true, decide_true, decide_false, Nat.reduceMul, Nat.zero_mul, Nat.one_mul, Nat.mul_one, gn]
    refine once_ok (once_close' h1) fun m2 H2 h2 => ?_
    have g2 := (sat_get h2).1
    simp only [RS, List.cons_append, List.nil_append, Option.isNone_some, Option.isNone_none, Option.isSome_some, Option.isSome_none, Nat.zero_add, Nat.add_zero, Nat.reduceAdd, List.getElem?_cons_zero, List.getElem?_cons_succ, List.length_cons, List.length_nil, List.all_cons, List.all_nil, Bool.and_self, Bool.and_true, Bool.true_and, Option.bind_some, Nat.reduceLeDiff, Nat.reduceEqDiff, Nat.le_refl, and_self, if_true, if_false, List.drop_zero, List.drop_succ_cons, List.take_zero, List.take_succ_cons, List.take_nil, List.drop_nil, true_and, and_true, decide_true, decide_false, Nat.reduceMul, Nat.zero_mul, Nat.one_mul, Nat.mul_one, g2]
    exact hK _ (note_drop (once_close' h2))
theorem m34' (k : Nat) (hk2 : k = 34 ∨ k = 35) : MayP A k (fv Fi.specs_onceDeeds_1) := by
  intro p s n H F K ho hn hk hs hK
  simp only [RS, List.cons_append, List.nil_append, Option.isNone_some, Option.isNone_none, Option.isSome_some, Option.isSome_none, Nat.zero_add, Nat.add_zero, Nat.reduceAdd, List.getElem?_cons_zero, List.getElem?_cons_succ, List.length_cons, List.length_nil, List.all_cons, List.all_nil, Bool.and_self, Bool.and_true, Bool.true_and, Option.bind_some, Nat.reduceLeDiff, Nat.reduceEqDiff, Nat.le_refl, and_self, if_true, if_false, List.drop_zero, List.drop_succ_cons, List.take_zero, List.take_succ_cons, List.take_nil, List.drop_nil, true_and, and_true, decide_true, decide_false, Nat.reduceMul, Nat.zero_mul, Nat.one_mul, Nat.mul_one]
  refine use_specs_onceDeeds_1 0 ?_
  unfold sh_specs_onceDeeds_1
  obtain ⟨h, g⟩ := note_new (n := n) hs
  have hw : IntKind.i64.wrap (n.thread + 1) = n.thread + 1 := w64n (by have := hn.th; omega)
  simp only [RS, List.cons_append, List.nil_append, Option.isNone_some, Option.isNone_none, Option.isSome_some, Option.isSome_none, Nat.zero_add, Nat.add_zero, Nat.reduceAdd, List.getElem?_cons_zero, List.getElem?_cons_succ, List.length_cons, List.length_nil, List.all_cons, List.all_nil, Bool.and_self, Bool.and_true, Bool.true_and, Option.bind_some, Nat.reduceLeDiff, Nat.reduceEqDiff, Nat.le_refl, and_self, if_true, if_false, List.drop_zero, List.drop_succ_cons, List.take_zero, List.take_succ_cons, List.take_nil, List.drop_nil, true_and, and_true, decide_true, decide_false, Nat.reduceMul, Nat.zero_mul, Nat.one_mul, Nat.mul_one, g, hw]
  refine once_ok h fun m H1 h1 => ?_
  have g1 := (sat_get h1).1
  have gn := on_note h1
  have : mayB k s n = ((s.on n.addr).by_ == n.thread + 1) := by rcases hk2 with rfl | rfl <;> rfl
  rw [this] at hK
  simp only [RS, List.cons_append, List.nil_append, Option.isNone_some, Option.isNone_none, Option.isSome_some, Option.isSome_none, Nat.zero_add, Nat.add_zero, Nat.reduceAdd, List.getElem?_cons_zero, List.getElem?_cons_succ, List.length_cons, List.length_nil, List.all_cons, List.all_nil, Bool.and_self, Bool.and_true, Bool.true_and, Option.bind_some, Nat.reduceLeDiff, Nat.reduceEqDiff, Nat.le_refl, and_self, if_true, if_false, List.drop_zero, List.drop_succ_cons, List.take_zero, List.take_succ_cons, List.take_nil, List.drop_nil, true_and, and_true, decide_true, decide_false, Nat.reduceMul, Nat.zero_mul, Nat.one_mul, Nat.mul_one, g1, gn, same_refl]
  exact hK _ (note_drop (once_close' h1))
theorem m36 : MayP A 36 (fv Fi.specs_onceDeeds_6) := by
  intro p s n H F K ho hn hk hs hK
  simp only [RS, List.cons_append, List.nil_append, Option.isNone_some, Option.isNone_none, Option.isSome_some, Option.isSome_none, Nat.zero_add, Nat.add_zero, Nat.reduceAdd, List.getElem?_cons_zero, List.getElem?_cons_succ, List.length_cons, List.length_nil, List.all_cons, List.all_nil, Bool.and_self, Bool.and_true, Bool.true_and, Option.bind_some, Nat.reduceLeDiff, Nat.reduceEqDiff, Nat.le_refl, and_self, if_true, if_false, List.drop_zero, List.drop_succ_cons, List.take_zero, List.take_succ_cons, List.take_nil, List.drop_nil, true_and, and_true, decide_true, decide_false, Nat.reduceMul, Nat.zero_mul, Nat.one_mul, Nat.mul_one]
  refine use_specs_onceDeeds_6 0 ?_
  unfold sh_specs_onceDeeds_6
  obtain ⟨h, g⟩ := note_new (n := n) hs
  simp only [RS, List.cons_append, List.nil_append, Option.isNone_some, Option.isNone_none, Option.isSome_some, Option.isSome_none, Nat.zero_add, Nat.add_zero, Nat.reduceAdd, List.getElem?_cons_zero, List.getElem?_cons_succ, List.length_cons, List.length_nil, List.all_cons, List.all_nil, Bool.and_self, Bool.and_true, Bool.true_and, Option.bind_some, Nat.reduceLeDiff, Nat.reduceEqDiff, Nat.le_refl, and_self, if_true, if_false, List.drop_zero, List.drop_succ_cons, List.take_zero, List.take_succ_cons, List.take_nil, List.drop_nil, true_and, and_true, decide_true, decide_false, Nat.reduceMul, Nat.zero_mul, Nat.one_mul, Nat.mul_one, g]
  refine once_ok h fun m H1 h1 => ?_
  have g1 := (sat_get h1).1
  simp only [RS, List.cons_append, List.nil_append, Option.isNone_some, Option.isNone_none, Option.isSome_some, Option.isSome_none, Nat.zero_add, Nat.add_zero, Nat.reduceAdd, List.getElem?_cons_zero, List.getElem?_cons_succ, List.length_cons, List.length_nil, List.all_cons, List.all_nil, Bool.and_self, Bool.and_true, Bool.true_and, Option.bind_some, Nat.reduceLeDiff, Nat.reduceEqDiff, Nat.le_refl, and_self, if_true, if_false, List.drop_zero, List.drop_succ_cons, List.take_zero, List.take_succ_cons, List.take_nil, List.drop_nil, true_and, and_true, decide_true, decide_false, Nat.reduceMul, Nat.zero_mul, Nat.one_mul, Nat.mul_one, g1]
  exact hK _ (note_drop (once_close' h1))
theorem m37 : MayP A 37 (fv Fi.specs_onceDeeds_7) := by
  intro p s n H F K ho hn hk hs hK
  simp only [RS, List.cons_append, List.nil_append, Option.isNone_some, Option.isNone_none, Option.isSome_some, Option.isSome_none, Nat.zero_add, Nat.add_zero, Nat.reduceAdd, List.getElem?_cons_zero, List.getElem?_cons_succ, List.length_cons, List.length_nil, List.all_cons, List.all_nil, Bool.and_self, Bool.and_true, Bool.true_and, Option.bind_some, Nat.reduceLeDiff, Nat.reduceEqDiff, Nat.le_refl, and_self, if_true, if_false, List.drop_zero, List.drop_succ_cons, List.take_zero, List.take_succ_cons, List.take_nil, List.drop_nil, true_and, and_true, decide_true, decide_false, Nat.reduceMul, Nat.zero_mul, Nat.one_mul, Nat.mul_one]
  refine use_specs_onceDeeds_7 0 ?_
  unfold sh_specs_onceDeeds_7
  obtain ⟨h, g⟩ := note_new (n := n) hs
  simp only [RS, List.cons_append, List.nil_append, Option.isNone_some, Option.isNone_none, Option.isSome_some, Option.isSome_none, Nat.zero_add, Nat.add_zero, Nat.reduceAdd, List.getElem?_cons_zero, List.getElem?_cons_succ, List.length_cons, List.length_nil, List.all_cons, List.all_nil, Bool.and_self, Bool.and_true, Bool.true_and, Option.bind_some, Nat.reduceLeDiff, Nat.reduceEqDiff, Nat.le_refl, and_self, if_true, if_false, List.drop_zero, List.drop_succ_cons, List.take_zero, List.take_succ_cons, List.take_nil, List.drop_nil, true_and, and_true, decide_true, decide_false, Nat.reduceMul, Nat.zero_mul, Nat.one_mul, Nat.mul_one, g]
  refine once_ok h fun m H1 h1 => ?_
  have g1 := (sat_get h1).1
  simp only [RS, List.cons_append, List.nil_append, Option.isNone_some, Option.isNone_none, Option.isSome_some, Option.isSome_none, Nat.zero_add, Nat.add_zero, Nat.reduceAdd, List.getElem?_cons_zero, List.getElem?_cons_succ, List.length_cons, List.length_nil, List.all_cons, List.all_nil, Bool.and_self, Bool.and_true, Bool.true_and, Option.bind_some, Nat.reduceLeDiff, Nat.reduceEqDiff, Nat.le_refl, and_self, if_true, if_false, List.drop_zero, List.drop_succ_cons, List.take_zero, List.take_succ_cons, List.take_nil, List.drop_nil, true_and, and_true, decide_true, decide_false, Nat.reduceMul, Nat.zero_mul, Nat.one_mul, Nat.mul_one, g1]
  exact hK _ (note_drop (once_close' h1))
theorem t33 : ThenP A 33 (fv Fi.specs_onceDeeds_3) := by
  intro p s n H F K ho hn hk hm hs hK
  simp only [RS, List.cons_append, List.nil_append, Option.isNone_some, Option.isNone_none, Option.isSome_some, Option.isSome_none, Nat.zero_add, Nat.add_zero, Nat.reduceAdd, List.getElem?_cons_zero, List.getElem?_cons_succ, List.length_cons, List.length_nil, List.all_cons, List.all_nil, Bool.and_self, Bool.and_true, Bool.true_and, Option.bind_some, Nat.reduceLeDiff, Nat.reduceEqDiff, Nat.le_refl, and_self, if_true, if_false, List.drop_zero, List.drop_succ_cons, List.take_zero, List.take_succ_cons, List.take_nil, List.drop_nil, true_and, and_true, decide_true, decide_false, Nat.reduceMul, Nat.zero_mul, Nat.one_mul, Nat.mul_one]
  refine use_specs_onceDeeds_3 0 ?_
  unfold sh_specs_onceDeeds_3
  obtain ⟨h, g⟩ := note_new (n := n) hs
  have hw : IntKind.i64.wrap (n.thread + 1) = n.thread + 1 := w64n (by have := hn.th; omega)
  simp only [RS, List.cons_append, List.nil_append, Option.isNone_some, Option.isNone_none, Option.isSome_some, Option.isSome_none, Nat.zero_add, Nat.add_zero, Nat.reduceAdd, List.getElem?_cons_zero, List.getElem?_cons_succ, List.length_cons, List.length_nil, List.all_cons, List.all_nil, Bool.and_self, Bool.and_true, Bool.true_and, Option.bind_some, Nat.reduceLeDiff, Nat.reduceEqDiff, Nat.le_refl, and_self, if_true, if_false, List.drop_zero, List.drop_succ_cons, List.take_zero, List.take_succ_cons, List.take_nil, List.drop_nil, true_and, and_true, decide_true, decide_false, Nat.reduceMul, Nat.zero_mul, Nat.one_mul, Nat.mul_one, g, hw]
  refine once_ok h fun m H1 h1 => ?_
  have g1 := (sat_get h1).1
  have gn := on_note h1
  simp only [RS, List.cons_append, List.nil_append, Option.isNone_some, Option.isNone_none, Option.isSome_some, Option.isSome_none, Nat.zero_add, Nat.add_zero, Nat.reduceAdd, List.getElem?_cons_zero, List.getElem?_cons_succ, List.length_cons, List.length_nil, List.all_cons, List.all_nil, Bool.and_self, Bool.and_true, Bool.true_and, Option.bind_some, Nat.reduceLeDiff, Nat.reduceEqDiff, Nat.le_refl, and_self, if_true, if_false, List.drop_zero, List.drop_succ_cons, List.take_zero, List.take_succ_cons, List.take_nil, List.drop_nil, true_and, and_true, decide_true, decide_false, Nat.reduceMul, Nat.zero_mul, Nat.one_mul, Nat.mul_one, gn, same_refl, g1]
  exact hK _ (note_drop (once_close (x := ⟨n.thread + 1, false, false⟩) (sat_put _ h1)))
theorem t34 : ThenP A 34 (fv Fi.specs_onceDeeds_4) := by
  intro p s n H F K ho hn hk hm hs hK
  simp only [RS, List.cons_append, List.nil_append, Option.isNone_some, Option.isNone_none, Option.isSome_some, Option.isSome_none, Nat.zero_add, Nat.add_zero, Nat.reduceAdd, List.getElem?_cons_zero, List.getElem?_cons_succ, List.length_cons, List.length_nil, List.all_cons, List.all_nil, Bool.and_self, Bool.and_true, Bool.true_and, Option.bind_some, Nat.reduceLeDiff, Nat.reduceEqDiff, Nat.le_refl, and_self, if_true, if_false, List.drop_zero, List.drop_succ_cons, List.take_zero, List.take_succ_cons, List.take_nil, List.drop_nil, true_and, and_true, decide_true, decide_false, Nat.reduceMul, Nat.zero_mul, Nat.one_mul, Nat.mul_one]
  refine use_specs_onceDeeds_4 0 ?_
  unfold sh_specs_onceDeeds_4
  obtain ⟨h, g⟩ := note_new (n := n) hs
  simp only [RS, List.cons_append, List.nil_append, Option.isNone_some, Option.isNone_none, Option.isSome_some, Option.isSome_none, Nat.zero_add, Nat.add_zero, Nat.reduceAdd, List.getElem?_cons_zero, List.getElem?_cons_succ, List.length_cons, List.length_nil, List.all_cons, List.all_nil, Bool.and_self, Bool.and_true, Bool.true_and, Option.bind_some, Nat.reduceLeDiff, Nat.reduceEqDiff, Nat.le_refl, and_self, if_true, if_false, List.drop_zero, List.drop_succ_cons, List.take_zero, List.take_succ_cons, List.take_nil, List.drop_nil, true_and, and_true, decide_true, decide_false, Nat.reduceMul, Nat.zero_mul, Nat.one_mul, Nat.mul_one, g]
  refine once_ok h fun m H1 h1 => ?_
  have g1 := (sat_get h1).1
  simp only [RS, List.cons_append, List.nil_append, Option.isNone_some, Option.isNone_none, Option.isSome_some, Option.isSome_none, Nat.zero_add, Nat.add_zero, Nat.reduceAdd, List.getElem?_cons_zero, List.getElem?_cons_succ, List.length_cons, List.length_nil, List.all_cons, List.all_nil, Bool.and_self, Bool.and_true, Bool.true_and, Option.bind_some, Nat.reduceLeDiff, Nat.reduceEqDiff, Nat.le_refl, and_self, if_true, if_false, List.drop_zero, List.drop_succ_cons, List.take_zero, List.take_succ_cons, List.take_nil, List.drop_nil, true_and, and_true, decide_true, decide_false, Nat.reduceMul, Nat.zero_mul, Nat.one_mul, Nat.mul_one, g1]
  exact hK _ (note_drop (once_close (x := ⟨0, true, false⟩) (sat_put _ h1)))
theorem t35 : ThenP A 35 (fv Fi.specs_onceDeeds_5) := by
  intro p s n H F K ho hn hk hm hs hK
  simp only [RS, List.cons_append, List.nil_append, Option.isNone_some, Option.isNone_none, Option.isSome_some, Option.isSome_none, Nat.zero_add, Nat.add_zero, Nat.reduceAdd, List.getElem?_cons_zero, List.getElem?_cons_succ, List.length_cons, List.length_nil, List.all_cons, List.all_nil, Bool.and_self, Bool.and_true, Bool.true_and, Option.bind_some, Nat.reduceLeDiff, Nat.reduceEqDiff, Nat.le_refl, and_self, if_true, if_false, List.drop_zero, List.drop_succ_cons, List.take_zero, List.take_succ_cons, List.take_nil, List.drop_nil, true_and, and_true, decide_true, decide_false, Nat.reduceMul, Nat.zero_mul, Nat.one_mul, Nat.mul_one]
  refine use_specs_onceDeeds_5 0 ?_
  unfold sh_specs_onceDeeds_5
  obtain ⟨h, g⟩ := note_new (n := n) hs
  simp only [RS, List.cons_append, List.nil_append, Option.isNone_some, Option.isNone_none, Option.isSome_some, Option.isSome_none, Nat.zero_add, Nat.add_zero, Nat.reduceAdd, List.getElem?_cons_zero, List.getElem?_cons_succ, List.length_cons, List.length_nil, List.all_cons, List.all_nil, Bool.and_self, Bool.and_true, Bool.true_and, Option.bind_some, Nat.reduceLeDiff, Nat.reduceEqDiff, Nat.le_refl, and_self, if_true, if_false, List.drop_zero, List.drop_succ_cons, List.take_zero, List.take_succ_cons, List.take_nil, List.drop_nil, true_and, and_true, decide_true, decide_false, Nat.reduceMul, Nat.zero_mul, Nat.one_mul, Nat.mul_one, g]
  refine once_ok h fun m H1 h1 => ?_
  have g1 := (sat_get h1).1
  simp only [RS, List.cons_append, List.nil_append, Option.isNone_some, Option.isNone_none, Option.isSome_some, Option.isSome_none, Nat.zero_add, Nat.add_zero, Nat.reduceAdd, List.getElem?_cons_zero, List.getElem?_cons_succ, List.length_cons, List.length_nil, List.all_cons, List.all_nil, Bool.and_self, Bool.and_true, Bool.true_and, Option.bind_some, Nat.reduceLeDiff, Nat.reduceEqDiff, Nat.le_refl, and_self, if_true, if_false, List.drop_zero, List.drop_succ_cons, List.take_zero, List.take_succ_cons, List.take_nil, List.drop_nil, true_and, and_true, decide_true, decide_false, Nat.reduceMul, Nat.zero_mul, Nat.one_mul, Nat.mul_one, g1]
  exact hK _ (note_drop (once_close (x := ⟨0, false, true⟩) (sat_put _ h1)))
end
end Go.Proofs.YtiolnpeniklhiaaGreatDoor
