/- The abstract system: what holds of every state; a new one; who has a mutex.
   Conditions: what stands in memory, as each states it. -/
import Derived.Test.YtiolnpeniklhiaaGreatDoorSpec10
namespace Go.Proofs.YtiolnpeniklhiaaGreatDoor
open Go Go.Ab
set_option linter.all false
set_option maxRecDepth 100000

theorem ok_in {s : SS} (ho : s.ok) {a t : Int} (ht : 0 ≤ t ∧ t < 64) (hno : ∀ b, t ∉ s.q b) : ({ s with q := upd s.q a (s.q a ++ [t]) } : SS).ok := by
  have hm : ∀ b x, x ∈ upd s.q a (s.q a ++ [t]) b → x ∈ s.q b ∨ (b = a ∧ x = t) := by
    intro b x hx
    by_cases hb : b = a
    · subst hb
      rw [upd_self, List.mem_append] at hx
      rcases hx with hx | hx
      · exact .inl hx
      · exact .inr ⟨rfl, by simpa using hx⟩
    · rw [upd_ne _ _ hb] at hx; exact .inl hx
  refine ⟨fun b x hx => ?_, fun b => ?_, fun b c x hx hy => ?_, ho.ow, ho.lk, ho.on⟩
  · rcases hm b x hx with h | ⟨-, rfl⟩
    · exact ho.qt b x h
    · exact ht
  · show (upd s.q a (s.q a ++ [t]) b).Nodup
    by_cases hb : b = a
    · subst hb
      rw [upd_self, List.nodup_append]
      exact ⟨ho.qn b, by simp, fun x hx y hy e => by simp at hy; subst hy; exact hno b (e ▸ hx)⟩
    · rw [upd_ne _ _ hb]; exact ho.qn b
  · rcases hm b x hx with h1 | ⟨e1, e1'⟩ <;> rcases hm c x hy with h2 | ⟨e2, e2'⟩
    · exact ho.qu b c x h1 h2
    · subst e2'; exact absurd h1 (hno b)
    · subst e1'; exact absurd h2 (hno c)
    · rw [e1, e2]
theorem ok_ow {s : SS} (ho : s.ok) {a x : Int} (hx : 0 ≤ x ∧ x ≤ 64) : ({ s with ow := upd s.ow a x } : SS).ok := by
  refine ⟨ho.qt, ho.qn, ho.qu, fun b => ?_, ho.lk, ho.on⟩
  show 0 ≤ upd s.ow a x b ∧ upd s.ow a x b ≤ 64
  by_cases hb : b = a
  · subst hb; rw [upd_self]; exact hx
  · rw [upd_ne _ _ hb]; exact ho.ow b
theorem ok_lk {s : SS} (ho : s.ok) {a : Int} {x : LkS} (hx : x.ok) : ({ s with lk := upd s.lk a x } : SS).ok := by
  refine ⟨ho.qt, ho.qn, ho.qu, ho.ow, fun b => ?_, ho.on⟩
  show (upd s.lk a x b).ok
  by_cases hb : b = a
  · subst hb; rw [upd_self]; exact hx
  · rw [upd_ne _ _ hb]; exact ho.lk b
theorem ok_on {s : SS} (ho : s.ok) {a : Int} {x : OnS} (hx : 0 ≤ x.by_ ∧ x.by_ ≤ 64) : ({ s with on := upd s.on a x } : SS).ok := by
  refine ⟨ho.qt, ho.qn, ho.qu, ho.ow, ho.lk, fun b => ?_⟩
  show 0 ≤ (upd s.on a x b).by_ ∧ (upd s.on a x b).by_ ≤ 64
  by_cases hb : b = a
  · subst hb; rw [upd_self]; exact hx
  · rw [upd_ne _ _ hb]; exact ho.on b
theorem lthen_ok {k : Nat} {x : LkS} {t : Int} (hx : x.ok) (ht : 0 ≤ t ∧ t < 64) (hm : lmay k x t = true) : (lthen k x t).ok := by
  have hk : k = 21 ∨ k = 22 ∨ k = 23 ∨ k = 24 ∨ k = 25 ∨ k = 26 ∨ k = 27 ∨ k = 28 := by
    unfold lmay at hm
    split at hm <;> first | omega | cases hm
  rcases hk with rfl | rfl | rfl | rfl | rfl | rfl | rfl | rfl <;>
    simp only [lmay, LkS.reads, Bool.and_eq_true, Bool.not_eq_true', Bool.or_eq_false_iff, decide_eq_false_iff_not, beq_iff_eq, beq_eq_false_iff_ne, decide_eq_true_eq] at hm
  · obtain ⟨h1, h2, h3⟩ := hm
    refine ⟨?_, fun y hy => ?_, hx.up, hx.cl, fun hw => absurd h1 (hx.wr hw).1, fun hu hy => ?_⟩
    · show (x.rd ++ [t]).Nodup
      rw [List.nodup_append]
      exact ⟨hx.nd, by simp, fun a ha b hb e => by simp at hb; subst hb; exact h2 (e ▸ ha)⟩
    · rcases List.mem_append.1 hy with h | h
      · exact hx.rg y h
      · simp at h; subst h; exact ht
    · rcases List.mem_append.1 hy with h | h
      · exact hx.no hu h
      · simp at h
        have : x.up - 1 = t := h
        omega
  · obtain ⟨⟨h1, h2⟩, h3, h4⟩ := hm
    refine ⟨hx.nd, hx.rg, ⟨by show 0 ≤ t + 1; omega, by show t + 1 ≤ 64; omega⟩, hx.cl, fun hw => absurd h1 (hx.wr hw).1, fun hu hy => ?_⟩
    have : t + 1 - 1 ∈ x.rd := hy
    rw [show t + 1 - 1 = t by omega] at this
    exact h3 this
  · obtain ⟨h1, h2⟩ := hm
    exact ⟨hx.nd, hx.rg, hx.up, ⟨by show 0 ≤ t + 1; omega, by show t + 1 ≤ 64; omega⟩, fun hw => absurd h1 (hx.wr hw).1, hx.no⟩
  · obtain ⟨⟨⟨h1, h2⟩, h3⟩, h4⟩ := hm
    exact ⟨hx.nd, hx.rg, hx.up, hx.cl, fun _ => ⟨by show x.cl ≠ 0; omega, h3, h4⟩, hx.no⟩
  · refine ⟨hx.nd.sublist List.filter_sublist, fun y hy => hx.rg y (mem_wo.1 hy).1, hx.up, hx.cl, fun hw => ?_, fun hu hy => hx.no hu (mem_wo.1 hy).1⟩
    obtain ⟨a1, a2, a3⟩ := hx.wr hw
    exact ⟨a1, by show wo t x.rd = []; rw [a2]; rfl, a3⟩
  · exact ⟨hx.nd, hx.rg, ⟨by show (0 : Int) ≤ 0; omega, by show (0 : Int) ≤ 64; omega⟩, hx.cl, fun hw => ⟨(hx.wr hw).1, (hx.wr hw).2.1, rfl⟩, fun hu => absurd rfl hu⟩
  · exact ⟨hx.nd, hx.rg, hx.up, ⟨by show (0 : Int) ≤ 0; omega, by show (0 : Int) ≤ 64; omega⟩, (fun hw => by rw [show (lthen 27 x t).wr = x.wr from rfl, hm.2] at hw; cases hw), hx.no⟩
  · exact ⟨hx.nd, hx.rg, hx.up, ⟨by show (0 : Int) ≤ 0; omega, by show (0 : Int) ≤ 64; omega⟩, (fun hw => by cases hw), hx.no⟩
theorem may_of_flt {k : Nat} {s : SS} {n : NV} (hk : k ≠ 30 ∧ k ≠ 31) (h : fltS k s n = 0) : mayB k s n = true := by
  unfold fltS at h
  have e : (k == 30 || k == 31) = false := by simp [hk.1, hk.2]
  rw [e, cond_false] at h
  cases hm : mayB k s n with
  | true => rfl
  | false =>
    rw [hm] at h
    cases hc : (decide (k ≤ 5) || k == 32) <;> rw [hc] at h <;> cases h
theorem hd1_mem {l : List Int} {t : Int} (h : hd1 l = t) (ht : 0 ≤ t) : t ∈ l := by
  cases l with
  | nil =>
    have : (-1 : Int) = t := h
    omega
  | cons x l => unfold hd1 at h; simp [h]
theorem thenS_ok {k : Nat} {s : SS} {n : NV} (ho : s.ok) (hn : n.ok) (hk : n.kind = k) (hv : valid k = true) (h : fltS k s n = 0) : (thenS k s n).ok := by
  have hks : k = 1 ∨ k = 2 ∨ k = 3 ∨ k = 4 ∨ k = 5 ∨ k = 16 ∨ k = 17 ∨ k = 18 ∨ k = 19 ∨ k = 20 ∨ k = 21 ∨ k = 22 ∨ k = 23 ∨ k = 24 ∨ k = 25 ∨ k = 26 ∨ k = 27 ∨ k = 28 ∨ k = 29 ∨ k = 30 ∨ k = 31 ∨ k = 32 ∨ k = 33 ∨ k = 34 ∨ k = 35 ∨ k = 36 ∨ k = 37 := by
    unfold valid at hv
    simp only [Bool.or_eq_true, Bool.and_eq_true, decide_eq_true_eq] at hv
    omega
  have hth := hn.th
  by_cases h30 : k = 30 ∨ k = 31
  · rcases h30 with rfl | rfl <;> exact ⟨ho.qt, ho.qn, ho.qu, ho.ow, ho.lk, ho.on⟩
  have hm := may_of_flt (by omega) h
  rcases hks with rfl | rfl | rfl | rfl | rfl | rfl | rfl | rfl | rfl | rfl | rfl | rfl | rfl | rfl | rfl | rfl | rfl | rfl | rfl | rfl | rfl | rfl | rfl | rfl | rfl | rfl | rfl
  · refine ok_in ho hth fun b hb => ?_
    simp only [mayB, Bool.not_eq_true', decide_eq_false_iff_not] at hm
    exact hm ⟨b, hb⟩
  · exact ok_out ho _ _
  · exact ok_out ho _ _
  · have hot := hn.ot (by simp [NV.oth, hk])
    have h1 : n.other ∈ s.q n.addr := hd1_mem (by simpa [mayB] using hm) hot.1
    refine ok_in (ok_out ho n.addr n.other) hot fun b hb => ?_
    by_cases hba : b = n.addr
    · subst hba
      have : n.other ∈ upd s.q n.addr (wo n.other (s.q n.addr)) n.addr := hb
      rw [upd_self, mem_wo] at this
      exact this.2 rfl
    · have : n.other ∈ upd s.q n.addr (wo n.other (s.q n.addr)) b := hb
      rw [upd_ne _ _ hba] at this
      exact hba (ho.qu _ _ _ this h1)
  · exact ok_out ho _ _
  · exact ok_ow ho (by omega)
  · exact ok_ow ho (by omega)
  · have hot := hn.ot (by simp [NV.oth, hk])
    exact ok_ow ho (by omega)
  · exact ho
  · exact ho
  · exact ok_lk ho (lthen_ok (ho.lk _) hth hm)
  · exact ok_lk ho (lthen_ok (ho.lk _) hth hm)
  · exact ok_lk ho (lthen_ok (ho.lk _) hth hm)
  · exact ok_lk ho (lthen_ok (ho.lk _) hth hm)
  · exact ok_lk ho (lthen_ok (ho.lk _) hth hm)
  · exact ok_lk ho (lthen_ok (ho.lk _) hth hm)
  · exact ok_lk ho (lthen_ok (ho.lk _) hth hm)
  · exact ok_lk ho (lthen_ok (ho.lk _) hth hm)
  · exact ⟨ho.qt, ho.qn, ho.qu, ho.ow, ho.lk, ho.on⟩
  · exact absurd (.inl rfl) h30
  · exact absurd (.inr rfl) h30
  · exact ho
  · exact ok_on ho ⟨by show 0 ≤ n.thread + 1; omega, by show n.thread + 1 ≤ 64; omega⟩
  · exact ok_on ho ⟨by show (0 : Int) ≤ 0; omega, by show (0 : Int) ≤ 64; omega⟩
  · exact ok_on ho ⟨by show (0 : Int) ≤ 0; omega, by show (0 : Int) ≤ 64; omega⟩
  · exact ho
  · exact ho
theorem sawS_ok {s : SS} {n : NV} (ho : s.ok) : (sawS s n).2.ok := by
  unfold sawS
  cases hc : (valid n.kind && thr n.thread && (!n.oth || thr n.other)) with
  | false => exact ho
  | true =>
    simp only [Bool.and_eq_true] at hc
    obtain ⟨⟨hv, ht⟩, hot⟩ := hc
    have hnok : n.ok := ⟨thr_iff.1 ht, fun h => by rw [h] at hot; exact thr_iff.1 (by simpa using hot)⟩
    rw [cond_true]
    cases (s.seen && decide (n.step < s.step)) with
    | true => exact ho
    | false =>
      rw [cond_false]
      show (bif fltS n.kind s n == 0 then { deedS n.kind s n with step := n.step, seen := true } else s).ok
      cases hf : (fltS n.kind s n == 0) with
      | false => exact ho
      | true =>
        have h0 : fltS n.kind s n = 0 := by simpa using hf
        have h1 : (deedS n.kind s n).ok := by
          unfold deedS
          rw [hf, cond_true]
          exact thenS_ok ho hnok rfl hv h0
        exact ⟨h1.qt, h1.qn, h1.qu, h1.ow, h1.lk, h1.on⟩
section
variable {H : AH} {F : SL} {K : KV} {p : Nat} {s : SS}
theorem zero_unb : unb .zero := ⟨fun _ => rfl, fun _ => rfl, fun _ => rfl, fun _ => rfl, fun _ => rfl⟩
theorem New_ok (hs : sat H F) (hK : ∀ p H', sat H' (StA p .zero * F) → K (ptr p) H') : DS Tryz.prog Fi.specs_New [] H K := by
  refine use_specs_New 0 ?_
  unfold sh_specs_New
  simp only [RS, List.cons_append, List.nil_append, Option.isNone_some, Option.isNone_none, Option.isSome_some, Option.isSome_none, Nat.zero_add, Nat.add_zero, Nat.reduceAdd, List.getElem?_cons_zero, List.getElem?_cons_succ, List.length_cons, List.length_nil, List.all_cons, List.all_nil, Bool.and_self, Bool.and_true, Bool.true_and, Option.bind_some, Nat.reduceLeDiff, Nat.reduceEqDiff, Nat.le_refl, and_self, if_true, if_false, List.drop_zero, List.drop_succ_cons, List.take_zero, List.take_succ_cons, List.take_nil, List.drop_nil, true_and, and_true, decide_true, decide_false, Nat.reduceMul, Nat.zero_mul, Nat.one_mul, Nat.mul_one]
  exact hK _ _ (sat_StA.2 (.inr ⟨zero_unb, sat_new _ hs⟩))
theorem Mutex_ok {a : Int} (ho : s.ok) (hs : sat H (StA p s * F)) (hK : K (.int .i64 (s.ow a - 1)) H) : DS Tryz.prog Fi.specs_State_Mutex [ptr p, .int .u32 a] H K := by
  refine use_specs_State_Mutex 0 ?_
  unfold sh_specs_State_Mutex
  have hw : IntKind.i64.wrap (s.ow a - 1) = s.ow a - 1 := w64n (by have := ho.ow a; omega)
  rcases sat_StA.1 hs with h | ⟨hu, h⟩
  · obtain ⟨d, hd, h1⟩ := sat_StR.1 h
    have g := (sat_get h1).1
    simp only [DX.hd, hdS] at g
    simp only [RS, List.cons_append, List.nil_append, Option.isNone_some, Option.isNone_none, Option.isSome_some, Option.isSome_none, Nat.zero_add, Nat.add_zero, Nat.reduceAdd, List.getElem?_cons_zero, List.getElem?_cons_succ, List.length_cons, List.length_nil, List.all_cons, List.all_nil, Bool.and_self, Bool.and_true, Bool.true_and, Option.bind_some, Nat.reduceLeDiff, Nat.reduceEqDiff, Nat.le_refl, and_self, if_true, if_false, List.drop_zero, List.drop_succ_cons, List.take_zero, List.take_succ_cons, List.take_nil, List.drop_nil, true_and, and_true, decide_true, decide_false, Nat.reduceMul, Nat.zero_mul, Nat.one_mul, Nat.mul_one, g, o_look hd (maps_o h1), hw]
    exact hK
  · have g := (sat_get h).1
    simp only [hdS] at g
    rw [hu.ow] at hw hK
    simp only [RS, List.cons_append, List.nil_append, Option.isNone_some, Option.isNone_none, Option.isSome_some, Option.isSome_none, Nat.zero_add, Nat.add_zero, Nat.reduceAdd, List.getElem?_cons_zero, List.getElem?_cons_succ, List.length_cons, List.length_nil, List.all_cons, List.all_nil, Bool.and_self, Bool.and_true, Bool.true_and, Option.bind_some, Nat.reduceLeDiff, Nat.reduceEqDiff, Nat.le_refl, and_self, if_true, if_false, List.drop_zero, List.drop_succ_cons, List.take_zero, List.take_succ_cons, List.take_nil, List.drop_nil, true_and, and_true, decide_true, decide_false, Nat.reduceMul, Nat.zero_mul, Nat.one_mul, Nat.mul_one, g, hw]
    exact hK
end
end Go.Proofs.YtiolnpeniklhiaaGreatDoor
