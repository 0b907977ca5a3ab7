/- The abstract system's state: its queues, locks and onces.
   Conditions: what stands in memory, as each states it. -/
import Derived.Test.YtiolnpeniklhiaaGreatDoorSpec2
namespace Go.Proofs.YtiolnpeniklhiaaGreatDoor
open Go Go.Ab
set_option linter.all false
set_option maxRecDepth 100000

theorem beq_dec (a b : Int) : (a == b) = decide (a = b) := by
  by_cases h : a = b <;> simp [h]
theorem pick_cons {A B C F : SL} {H : AH} (h : sat H (A * (B * (C * F)))) : sat H (C * (A * (B * F))) := sat_of_eq h (by ac_rfl)
section
variable {H : AH} {p : Nat} {s : SS} {F : SL} {d : DX} {a t : Int} {K : KV}
theorem q_look (hd : d.rel s) (h : sat H (mapA .u32 d.mq d.Dq qF * F)) (a : Int) : ∃ v G, lkO (.int .u32) (.slice none 0 0) false (.int .u32 a) (H.get d.mq) = some v ∧ sat H (sliceA false v (s.q a) * G) := by
  obtain ⟨o, e, c⟩ := map_look (k := a) (z := .slice none 0 0) (ok := false) h
  rcases c with ⟨rfl, hn⟩ | ⟨v, x, rfl, hx, h2⟩
  · exact ⟨_, _, e, by rw [hd.q, hn]; exact slice_nil h⟩
  · exact ⟨_, _, e, by rw [hd.q, hx]; exact h2⟩
theorem maps_q (h : sat H (pts p (d.hd s) * (d.maps * F))) : sat H (mapA .u32 d.mq d.Dq qF * (pts p (d.hd s) * (mapA .u32 d.mo d.Do owF * (mapA .u32 d.ml d.Dl lkF * (mapA .u32 d.mn d.Dn onF * (mapA .i64 d.mw d.Dw waF * F)))))) :=
  sat_of_eq h (by unfold DX.maps; ac_rfl)
theorem maps_o (h : sat H (pts p (d.hd s) * (d.maps * F))) : sat H (mapA .u32 d.mo d.Do owF * (pts p (d.hd s) * (mapA .u32 d.mq d.Dq qF * (mapA .u32 d.ml d.Dl lkF * (mapA .u32 d.mn d.Dn onF * (mapA .i64 d.mw d.Dw waF * F)))))) :=
  sat_of_eq h (by unfold DX.maps; ac_rfl)
theorem maps_l (h : sat H (pts p (d.hd s) * (d.maps * F))) : sat H (mapA .u32 d.ml d.Dl lkF * (pts p (d.hd s) * (mapA .u32 d.mq d.Dq qF * (mapA .u32 d.mo d.Do owF * (mapA .u32 d.mn d.Dn onF * (mapA .i64 d.mw d.Dw waF * F)))))) :=
  sat_of_eq h (by unfold DX.maps; ac_rfl)
theorem maps_n (h : sat H (pts p (d.hd s) * (d.maps * F))) : sat H (mapA .u32 d.mn d.Dn onF * (pts p (d.hd s) * (mapA .u32 d.mq d.Dq qF * (mapA .u32 d.mo d.Do owF * (mapA .u32 d.ml d.Dl lkF * (mapA .i64 d.mw d.Dw waF * F)))))) :=
  sat_of_eq h (by unfold DX.maps; ac_rfl)
theorem maps_w (h : sat H (pts p (d.hd s) * (d.maps * F))) : sat H (mapA .i64 d.mw d.Dw waF * (pts p (d.hd s) * (mapA .u32 d.mq d.Dq qF * (mapA .u32 d.mo d.Do owF * (mapA .u32 d.ml d.Dl lkF * (mapA .u32 d.mn d.Dn onF * F)))))) :=
  sat_of_eq h (by unfold DX.maps; ac_rfl)

theorem queued_ok (ho : s.ok) (hs : sat H (StR p s * F)) (hK : K (.bool (decide (t ∈ s.q a))) H) : DS Tryz.prog Fi.specs_State_queued [ptr p, .int .i64 t, .int .u32 a] H K := by
  refine use_specs_State_queued 0 ?_
  unfold sh_specs_State_queued
  obtain ⟨d, hd, h⟩ := sat_StR.1 hs
  have g := (sat_get h).1
  obtain ⟨v, G, e, h2⟩ := q_look hd (maps_q h) a
  simp only [RS, List.cons_append, List.nil_append, Option.isNone_some, Option.isNone_none, Option.isSome_some, Option.isSome_none, Nat.zero_add, Nat.add_zero, Nat.reduceAdd, List.getElem?_cons_zero, List.getElem?_cons_succ, List.length_cons, List.length_nil, List.all_cons, List.all_nil, Bool.and_self, Bool.and_true, Bool.true_and, Option.bind_some, Nat.reduceLeDiff, Nat.reduceEqDiff, Nat.le_refl, and_self, if_true, if_false, List.drop_zero, List.drop_succ_cons, List.take_zero, List.take_succ_cons, List.take_nil, List.drop_nil, true_and, and_true, decide_true, decide_false, Nat.reduceMul, Nat.zero_mul, Nat.one_mul, Nat.mul_one, g, DX.hd, hdS, e]
  refine Contains_ok (slice_row h2) (by have := ho.qlen a; omega) ?_
  exact hK
def hd1 : List Int → Int
  | [] => -1
  | x :: _ => x
theorem first_ok (ho : s.ok) (hs : sat H (StR p s * F)) (hK : K (.int .i64 (hd1 (s.q a))) H) : DS Tryz.prog Fi.specs_State_first [ptr p, .int .u32 a] H K := by
  refine use_specs_State_first 0 ?_
  unfold sh_specs_State_first
  obtain ⟨d, hd, h⟩ := sat_StR.1 hs
  have g := (sat_get h).1
  obtain ⟨v, G, e, h2⟩ := q_look hd (maps_q h) a
  have row := slice_row h2
  simp only [RS, List.cons_append, List.nil_append, Option.isNone_some, Option.isNone_none, Option.isSome_some, Option.isSome_none, Nat.zero_add, Nat.add_zero, Nat.reduceAdd, List.getElem?_cons_zero, List.getElem?_cons_succ, List.length_cons, List.length_nil, List.all_cons, List.all_nil, Bool.and_self, Bool.and_true, Bool.true_and, Option.bind_some, Nat.reduceLeDiff, Nat.reduceEqDiff, Nat.le_refl, and_self, if_true, if_false, List.drop_zero, List.drop_succ_cons, List.take_zero, List.take_succ_cons, List.take_nil, List.drop_nil, true_and, and_true, decide_true, decide_false, Nat.reduceMul, Nat.zero_mul, Nat.one_mul, Nat.mul_one, g, DX.hd, hdS, e, row.len]
  cases hq : s.q a with
  | nil =>
    rw [hq] at hK
    simp only [RS, List.cons_append, List.nil_append, Option.isNone_some, Option.isNone_none, Option.isSome_some, Option.isSome_none, Nat.zero_add, Nat.add_zero, Nat.reduceAdd, List.getElem?_cons_zero, List.getElem?_cons_succ, List.length_cons, List.length_nil, List.all_cons, List.all_nil, Bool.and_self, Bool.and_true, Bool.true_and, Option.bind_some, Nat.reduceLeDiff, Nat.reduceEqDiff, Nat.le_refl, and_self, if_true, if_false, List.drop_zero, List.drop_succ_cons, List.take_zero, List.take_succ_cons, List.take_nil, List.drop_nil, true_and, and_true, decide_true, decide_false, Nat.reduceMul, Nat.zero_mul, Nat.one_mul, Nat.mul_one, hq]
    exact hK
  | cons x xs =>
    have hd : decide ((((x :: xs).length : Nat) : Int) > 0) = true := by simp
    obtain ⟨p', e1, e2⟩ := row.at0 0 x (by rw [hq]; rfl)
    rw [hq] at hK
    have e1' : ixS 1 v (.int .i64 0) = some p' := e1
    simp only [hd, bn_some, bn2_some, cnd_true, e1', e2]
    exact hK
theorem upd_rel_q (hd : d.rel s) (a : Int) (xs : List Int) : ({ d with Dq := upd d.Dq a (some xs) } : DX).rel { s with q := upd s.q a xs } := by
  refine ⟨fun b => ?_, hd.ow, hd.lk, hd.on, hd.wa⟩
  by_cases hb : b = a
  · subst hb; simp [upd_self]
  · simp [upd_ne _ _ hb, hd.q]
theorem q_set {v : Value} {xs : List Int} (hd : d.rel s) (h : sat H (pts p (d.hd s) * (d.maps * (sliceA false v xs * F)))) :
    ∃ H', muO d.mq (.int .u32) (.int .u32 a) v H (H.get d.mq) = some (.tuple ⟨[]⟩, H') ∧ sat H' (StR p { s with q := upd s.q a xs } * F) := by
  have h1 : sat H (mapA .u32 d.mq d.Dq qF * (qF a xs v * (pts p (d.hd s) * (mapA .u32 d.mo d.Do owF * (mapA .u32 d.ml d.Dl lkF * (mapA .u32 d.mn d.Dn onF * (mapA .i64 d.mw d.Dw waF * F))))))) :=
    sat_of_eq (maps_q h) (by unfold qF; ac_rfl)
  obtain ⟨H', e, h2⟩ := map_set h1
  refine ⟨H', e, sat_StR.2 ⟨{ d with Dq := upd d.Dq a (some xs) }, upd_rel_q hd a xs, sat_of_eq h2 ?_⟩⟩
  simp only [DX.maps, DX.hd, hdS]
  ac_rfl
theorem in_ok (ho : s.ok) (hs : sat H (StR p s * F)) (hK : ∀ H', sat H' (StR p { s with q := upd s.q a (s.q a ++ [t]) } * F) → K (.tuple ⟨[]⟩) H') : DS Tryz.prog Fi.specs_State_in [ptr p, .int .i64 t, .int .u32 a] H K := by
  refine use_specs_State_in 0 ?_
  unfold sh_specs_State_in
  obtain ⟨d, hd, h⟩ := sat_StR.1 hs
  have g := (sat_get h).1
  obtain ⟨v, G, e, h2⟩ := q_look hd (maps_q h) a
  have hl : (s.q a).length < 1000000 := by have := ho.qlen a; omega
  simp only [RS, List.cons_append, List.nil_append, Option.isNone_some, Option.isNone_none, Option.isSome_some, Option.isSome_none, Nat.zero_add, Nat.add_zero, Nat.reduceAdd, List.getElem?_cons_zero, List.getElem?_cons_succ, List.length_cons, List.length_nil, List.all_cons, List.all_nil, Bool.and_self, Bool.and_true, Bool.true_and, Option.bind_some, Nat.reduceLeDiff, Nat.reduceEqDiff, Nat.le_refl, and_self, if_true, if_false, List.drop_zero, List.drop_succ_cons, List.take_zero, List.take_succ_cons, List.take_nil, List.drop_nil, true_and, and_true, decide_true, decide_false, Nat.reduceMul, Nat.zero_mul, Nat.one_mul, Nat.mul_one, g, DX.hd, hdS, e]
  refine Clone_ok (F := G) (sat_res h2) hl fun v' H' hc => ?_
  obtain ⟨h3, -⟩ := clone_res (o := .cells [.int .i64 t] Ty.int .fix) hc h
  have hp : H'.get p = some (d.hd s) := by
    rcases hc with ⟨-, -, rfl⟩ | ⟨-, -, rfl⟩ | ⟨-, rfl⟩
    · exact g
    · rw [AH.get_new, if_neg (by have := (sat_get h).2; simp; omega)]; exact g
    · rw [AH.get_new, if_neg (by have := (sat_get h).2; simp; omega), AH.get_new, if_neg (by have := (sat_get h).2; simp; omega)]; exact g
  have h4 : sat (H'.put H.nx (.cells [.int .i64 t] Ty.int .fix)) (sliceA true v' (s.q a) * (pts H.nx (.cells [.int .i64 t] Ty.int .fix) * (pts p (d.hd s) * (d.maps * F)))) := sat_of_eq h3 (by ac_rfl)
  obtain ⟨v2, H2, e2, h5⟩ := app1_ok h4 hl
  have h6 : sat H2 (pts p (d.hd s) * (d.maps * (sliceA false v2 (s.q a ++ [t]) * F))) := sat_sub (A := pts H.nx (.cells [.int .i64 t] Ty.int .fix)) (sat_of_eq (slice_weak h5) (by ac_rfl))
  have g2 := (sat_get h6).1
  obtain ⟨H3, e3, h7⟩ := q_set (a := a) hd h6
  simp only [DX.hd, hdS] at hp g2
  simp only [RS, List.cons_append, List.nil_append, Option.isNone_some, Option.isNone_none, Option.isSome_some, Option.isSome_none, Nat.zero_add, Nat.add_zero, Nat.reduceAdd, List.getElem?_cons_zero, List.getElem?_cons_succ, List.length_cons, List.length_nil, List.all_cons, List.all_nil, Bool.and_self, Bool.and_true, Bool.true_and, Option.bind_some, Nat.reduceLeDiff, Nat.reduceEqDiff, Nat.le_refl, and_self, if_true, if_false, List.drop_zero, List.drop_succ_cons, List.take_zero, List.take_succ_cons, List.take_nil, List.drop_nil, true_and, and_true, decide_true, decide_false, Nat.reduceMul, Nat.zero_mul, Nat.one_mul, Nat.mul_one, hp, same_refl, e2, g2, e3]
  exact hK _ h7
theorem out_ok (ho : s.ok) (hs : sat H (StR p s * F)) (hK : ∀ H', sat H' (StR p { s with q := upd s.q a (wo t (s.q a)) } * F) → K (.tuple ⟨[]⟩) H') : DS Tryz.prog Fi.specs_State_out [ptr p, .int .i64 t, .int .u32 a] H K := by
  refine use_specs_State_out 0 ?_
  unfold sh_specs_State_out
  obtain ⟨d, hd, h0⟩ := sat_StR.1 hs
  have hn := sat_new (.cells [.int .i64 t] Ty.int .fix) h0
  have h : sat (H.new (.cells [.int .i64 t] Ty.int .fix)) (pts p (d.hd s) * (d.maps * (pts H.nx (.cells [.int .i64 t] Ty.int .fix) * F))) := sat_of_eq hn (by ac_rfl)
  have g := (sat_get h).1
  obtain ⟨v, G, e, h2⟩ := q_look hd (maps_q h) a
  have hl : (s.q a).length < 1000000 := by have := ho.qlen a; omega
  simp only [RS, List.cons_append, List.nil_append, Option.isNone_some, Option.isNone_none, Option.isSome_some, Option.isSome_none, Nat.zero_add, Nat.add_zero, Nat.reduceAdd, List.getElem?_cons_zero, List.getElem?_cons_succ, List.length_cons, List.length_nil, List.all_cons, List.all_nil, Bool.and_self, Bool.and_true, Bool.true_and, Option.bind_some, Nat.reduceLeDiff, Nat.reduceEqDiff, Nat.le_refl, and_self, if_true, if_false, List.drop_zero, List.drop_succ_cons, List.take_zero, List.take_succ_cons, List.take_nil, List.drop_nil, true_and, and_true, decide_true, decide_false, Nat.reduceMul, Nat.zero_mul, Nat.one_mul, Nat.mul_one, g, DX.hd, hdS, e]
  refine Clone_ok h2 hl fun v' H' hc => ?_
  have h3 := clone_sat hc h
  have h4 : sat H' (sliceA true v' (s.q a) * (pts H.nx (.cells [.int .i64 t] Ty.int .fix) * (pts p (d.hd s) * (d.maps * F)))) := sat_of_eq h3 (by ac_rfl)
  have g2 := (sat_get (sat_sub h3)).1
  simp only [DX.hd, hdS] at g2
  simp only [RS, List.cons_append, List.nil_append, Option.isNone_some, Option.isNone_none, Option.isSome_some, Option.isSome_none, Nat.zero_add, Nat.add_zero, Nat.reduceAdd, List.getElem?_cons_zero, List.getElem?_cons_succ, List.length_cons, List.length_nil, List.all_cons, List.all_nil, Bool.and_self, Bool.and_true, Bool.true_and, Option.bind_some, Nat.reduceLeDiff, Nat.reduceEqDiff, Nat.le_refl, and_self, if_true, if_false, List.drop_zero, List.drop_succ_cons, List.take_zero, List.take_succ_cons, List.take_nil, List.drop_nil, true_and, and_true, decide_true, decide_false, Nat.reduceMul, Nat.zero_mul, Nat.one_mul, Nat.mul_one, g2, same_refl]
  refine DeleteFunc_ok h4 hl fun v2 H2 h5 => ?_
  have h6 : sat H2 (pts p (d.hd s) * (d.maps * (sliceA false v2 (wo t (s.q a)) * F))) := sat_sub (A := pts H.nx (.cells [.int .i64 t] Ty.int .fix)) (sat_of_eq h5 (by ac_rfl))
  have g3 := (sat_get h6).1
  obtain ⟨H3, e3, h7⟩ := q_set (a := a) hd h6
  simp only [DX.hd, hdS] at g3
  simp only [RS, List.cons_append, List.nil_append, Option.isNone_some, Option.isNone_none, Option.isSome_some, Option.isSome_none, Nat.zero_add, Nat.add_zero, Nat.reduceAdd, List.getElem?_cons_zero, List.getElem?_cons_succ, List.length_cons, List.length_nil, List.all_cons, List.all_nil, Bool.and_self, Bool.and_true, Bool.true_and, Option.bind_some, Nat.reduceLeDiff, Nat.reduceEqDiff, Nat.le_refl, and_self, if_true, if_false, List.drop_zero, List.drop_succ_cons, List.take_zero, List.take_succ_cons, List.take_nil, List.drop_nil, true_and, and_true, decide_true, decide_false, Nat.reduceMul, Nat.zero_mul, Nat.one_mul, Nat.mul_one, g3, same_refl, e3]
  exact hK _ h7
end
end Go.Proofs.YtiolnpeniklhiaaGreatDoor
