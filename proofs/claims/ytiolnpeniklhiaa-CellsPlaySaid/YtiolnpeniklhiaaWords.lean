/- The cells' words, told in rising order.
   Conditions: what stands in memory, as each states it. -/
import Derived.Test.YtiolnpeniklhiaaSort8
namespace Go.Proofs.Ytiolnpeniklhiaa
open Go Go.Ab
set_option linter.all false
set_option maxRecDepth 100000

/-- Two lists of what stands, by rising addresses, are one. -/
theorem LstOK.uniq {f : Int → Int} : ∀ {L M : WL}, L.Pairwise (fun p q => p.1 < q.1) → M.Pairwise (fun p q => p.1 < q.1) → (∀ p, p ∈ L ↔ p ∈ M) → L = M
  | [], [], _, _, _ => rfl
  | [], q :: M, _, _, h => by have := (h q).2 (by simp); cases this
  | p :: L, [], _, _, h => by have := (h p).1 (by simp); cases this
  | p :: L, q :: M, h1, h2, h => by
    rw [List.pairwise_cons] at h1 h2
    have hpq : p = q := by
      rcases List.mem_cons.1 ((h p).1 (by simp)) with e | e
      · exact e
      · rcases List.mem_cons.1 ((h q).2 (by simp)) with e2 | e2
        · exact e2.symm
        · have a1 := h2.1 p e
          have a2 := h1.1 q e2
          omega
    subst hpq
    have : L = M := LstOK.uniq (f := f) h1.2 h2.2 fun x => by
      constructor
      · intro hx
        rcases List.mem_cons.1 ((h x).1 (by simp [hx])) with e | e
        · subst e; have := h1.1 x hx; omega
        · exact e
      · intro hx
        rcases List.mem_cons.1 ((h x).2 (by simp [hx])) with e | e
        · subst e; have := h2.1 x hx; omega
        · exact e
    rw [this]
theorem LstOK.mem {L : WL} {f : Int → Int} (h : LstOK L f) (p : Int × Int) : p ∈ L ↔ p.2 ≠ 0 ∧ f p.1 = p.2 := by
  have key : ∀ {M : WL} (hs : M.Pairwise (fun p q => p.1 < q.1)) (q : Int × Int), q ∈ M → getL M q.1 = q.2 := by
    intro M
    induction M with
    | nil => intro _ q hq; cases hq
    | cons x M ih =>
      intro hs q hq
      rw [List.pairwise_cons] at hs
      rw [getL_cons]
      rcases List.mem_cons.1 hq with e | e
      · subst e; simp
      · have := hs.1 q e
        rw [if_neg (by omega)]
        exact ih hs.2 q e
  constructor
  · intro hp
    exact ⟨h.nz p hp, by rw [h.val]; exact key h.srt p hp⟩
  · rintro ⟨h1, h2⟩
    rw [h.val] at h2
    unfold getL at h2
    cases hf : L.find? (fun q => q.1 == p.1) with
    | none => rw [hf] at h2; exact absurd h2.symm h1
    | some q =>
      rw [hf] at h2
      have hm := List.mem_of_find?_eq_some hf
      have he := List.find?_some hf
      simp only [beq_iff_eq] at he
      have : q = p := Prod.ext he h2
      rw [← this]; exact hm
/-- What a map's entries tell of what stands. -/
def wordsOf (f : Int → Int) (l : IL) : WL := l.map fun p => (p.1, f p.1)
theorem entry_val {f : Int → Int} {l : IL} {es : List MapEntry} {clk : Nat} (hm : MapRep .u32 l es clk) (hl : ∀ k, lookI l k = vOf (f k)) {p : Int × Value × Nat} (hp : p ∈ l) : p.2.1 = .int .u64 (f p.1) ∧ f p.1 ≠ 0 := by
  obtain ⟨j, hj⟩ := List.getElem?_of_mem hp
  have := (look_some hm.nd (k := p.1) (v := p.2.1)).2 ⟨j, p.2.2, hj⟩
  rw [hl, vOf] at this
  split at this
  · cases this
  · rename_i h
    exact ⟨(Option.some.inj this).symm, h⟩
theorem entry_mem {f : Int → Int} {l : IL} {es : List MapEntry} {clk : Nat} (hm : MapRep .u32 l es clk) (hl : ∀ k, lookI l k = vOf (f k)) {k : Int} (hk : f k ≠ 0) : ∃ p ∈ l, p.1 = k := by
  have h := hl k
  unfold vOf at h
  rw [if_neg hk] at h
  obtain ⟨j, b, hj⟩ := (look_some hm.nd).1 h
  exact ⟨_, List.mem_of_getElem? hj, rfl⟩
theorem words_mem {f : Int → Int} {l : IL} {es : List MapEntry} {clk : Nat} (hm : MapRep .u32 l es clk) (hl : ∀ k, lookI l k = vOf (f k)) (p : Int × Int) : p ∈ wordsOf f l ↔ p.2 ≠ 0 ∧ f p.1 = p.2 := by
  unfold wordsOf
  rw [List.mem_map]
  constructor
  · rintro ⟨q, hq, rfl⟩
    exact ⟨(entry_val hm hl hq).2, rfl⟩
  · rintro ⟨h1, h2⟩
    obtain ⟨q, hq, he⟩ := entry_mem hm hl (k := p.1) (by rw [h2]; exact h1)
    exact ⟨q, hq, Prod.ext he (by simp only; rw [he]; exact h2)⟩
theorem words_nodup {f : Int → Int} {l : IL} (hn : (l.map (·.1)).Nodup) : (wordsOf f l).Nodup := by
  unfold wordsOf
  have h2 : l.Pairwise (fun a b => a.1 ≠ b.1) := List.pairwise_map.1 hn
  exact List.pairwise_map.2 (h2.imp fun hab e => hab (by have := congrArg Prod.fst e; exact this))
theorem words_perm {f : Int → Int} {l : IL} {es : List MapEntry} {clk : Nat} {L : WL} (hm : MapRep .u32 l es clk) (hl : ∀ k, lookI l k = vOf (f k)) (hL : LstOK L f) : (wordsOf f l).Perm L := by
  refine (List.perm_ext_iff_of_nodup (words_nodup hm.nd) ?_).2 fun p => ?_
  · exact hL.srt.imp fun {a b} hab e => by rw [e] at hab; omega
  · rw [words_mem hm hl, hL.mem]
/-- Sorted: the list of what stands. -/
theorem words_sorted {f : Int → Int} {L W : WL} {R : WA} (hL : LstOK L f) (hp : W.Perm L) (h1 : Sort.PermIn 0 W.toArray.size W.toArray R) (h2 : Sort.SortedIn ltW 0 W.toArray.size R) : R.toList = L := by
  have hsz : R.size = W.length := by rw [h1.1]; simp
  have hRL : R.toList.Perm L := by
    have := h1.2.2
    rw [show (W.toArray.extract 0 W.toArray.size) = W.toArray by simp] at this
    rw [show R.extract 0 W.toArray.size = R by rw [show W.toArray.size = R.size by rw [hsz]; simp]; simp] at this
    exact this.trans (by simpa using hp)
  have hkeys : R.toList.Pairwise (fun p q => p.1 ≠ q.1) := by
    have : L.Pairwise (fun p q : Int × Int => p.1 ≠ q.1) := hL.srt.imp fun {a b} h e => by omega
    exact hRL.symm.pairwise this (fun {x y} h e => h e.symm)
  refine LstOK.uniq (f := f) ?_ hL.srt fun p => hRL.mem_iff
  rw [List.pairwise_iff_getElem]
  intro i j hi hj hij
  have hj' : j < R.size := by simpa using hj
  have hi' : i < R.size := by simpa using hi
  have hne := (List.pairwise_iff_getElem.1 hkeys) i j hi hj hij
  have hlt := h2 i j (by omega) hij (by simp; omega)
  have e1 : R[j]! = R.toList[j] := by simp [hj']
  have e2 : R[i]! = R.toList[i] := by simp [hi']
  rw [e1, e2] at hlt
  unfold ltW at hlt
  simp only [decide_eq_false_iff_not] at hlt
  omega
theorem flatD_toArray (W : WL) : flatD W.toArray = flatW W := by unfold flatD; simp
/-- The row while it is filled. -/
theorem zrow_cut (n k : Nat) (h : k < n) : zrow [.int .u32 0, .int .u64 0] (n - k) = [.int .u32 0, .int .u64 0] ++ zrow [.int .u32 0, .int .u64 0] (n - (k + 1)) := by
  rw [show n - k = (n - (k + 1)) + 1 by omega]; rfl
theorem app_fill {H : AH} {m b n : Nat} {W : WL} {p : Int × Int} {Tb : TypeId} {k : CK} {F : SL} (hlen : W.length < n)
    (h : sat H (pts m (.cells (flatW W ++ zrow [.int .u32 0, .int .u64 0] (n - W.length)) Ty.cells_Word .fix) * (pts b (.cells (rowW p) Tb k) * F))) :
    ∃ H', appS 2 16 Ty.cells_Word (slc m W.length n) (.slice (some ⟨b, 0, none⟩) 1 1) H = some (slc m (W ++ [p]).length n, H') ∧
      sat H' (pts m (.cells (flatW (W ++ [p]) ++ zrow [.int .u32 0, .int .u64 0] (n - (W ++ [p]).length)) Ty.cells_Word .fix) * (pts b (.cells (rowW p) Tb k) * F)) := by
  have gm := (sat_get h).1
  have gb := (sat_get (sat_sub h)).1
  have hsrc : srcS 2 (.slice (some ⟨b, 0, none⟩) 1 1) H = some (rowW p, 1) := by
    simp only [srcS, gb]; rfl
  have hl : (flatW W).length = W.length * 2 := flatW_len W
  have e0 : Nat.ble (W.length + 1) n = true := by rw [Nat.ble_eq]; omega
  have hzl : (zrow [.int .u32 0, .int .u64 0] (n - W.length)).length = (n - W.length) * 2 := zrow_len _ _
  have e1 : Nat.ble (0 + (W.length + 1) * 2) (flatW W ++ zrow [.int .u32 0, .int .u64 0] (n - W.length)).length = true := by
    rw [Nat.ble_eq, List.length_append, hl, hzl]; omega
  have hsp : splice (flatW W ++ zrow [.int .u32 0, .int .u64 0] (n - W.length)) (0 + W.length * 2) (rowW p) = flatW (W ++ [p]) ++ zrow [.int .u32 0, .int .u64 0] (n - (W ++ [p]).length) := by
    unfold splice
    rw [zrow_cut n W.length hlen, flatW_append, List.length_append]
    have h1 : (flatW W ++ ([Value.int .u32 0, .int .u64 0] ++ zrow [.int .u32 0, .int .u64 0] (n - (W.length + 1)))).take (0 + W.length * 2) = flatW W := by
      rw [List.take_append_of_le_length (by omega), List.take_of_length_le (by omega)]
    have h2 : (flatW W ++ ([Value.int .u32 0, .int .u64 0] ++ zrow [.int .u32 0, .int .u64 0] (n - (W.length + 1)))).drop (0 + W.length * 2 + (rowW p).length) = zrow [.int .u32 0, .int .u64 0] (n - (W.length + 1)) := by
      rw [show 0 + W.length * 2 + (rowW p).length = (flatW W).length + 2 by rw [hl]; simp [rowW], ← List.drop_drop, List.drop_left]
      rfl
    rw [h1, h2]
    simp [flatW]
  refine ⟨_, by
    unfold appS
    simp only [hsrc, show (rowW p).all plain = true from rfl, cond_true, gm, e0, show Nat.beq 1 0 = false from rfl, cond_false, rw_fix, e1, Bool.and_self, hsp]
    rw [List.length_append, List.length_singleton], sat_put _ h⟩
theorem rngM_none {H : AH} {K : KV} (h : K (.pointer (some ⟨H.nx, 0, none⟩)) (H.new (.iter none 0 0 []))) : rngM H (.map none) K := h
theorem nxt_none {H : AH} {n : Nat} {a b : Nat} {l : List Nat} {K : KV} (g : H.get n = some (.iter none a b l)) (h : K (.tuple ⟨[.bool false]⟩) H) : nxt H (.pointer (some ⟨n, 0, none⟩)) K := by
  unfold nxt
  simp only [g]
  exact h
theorem Words_ok {c : Nat} {s : CS} {L : WL} {H : AH} {K : KV} {F : SL} (hL : LstOK L s.f) (hlen : L.length < 100000) (hs : sat H (CellsP c s * F))
    (hK : ∀ m H', sat H' (CellsP c s * (pts m (.cells (flatW L) Ty.cells_Word .fix) * F)) → K (slc m L.length L.length) H') :
    DS Try.prog Fi.cells_Cells_Words [ptr c] H K := by
  refine use_cells_Cells_Words (L.length + 2) ?_
  unfold sh_cells_Cells_Words
  obtain ⟨q, ⟨hq, hrng⟩, hp⟩ := sat_obj.1 hs
  cases q with
  | none =>
    have hL0 : L = [] := by
      cases L with
      | nil => rfl
      | cons p L => exact absurd (hq p.1) (by have := (hL.mem p).1 (by simp); rw [this.2]; exact this.1)
    subst hL0
    have hc : sat H (pts c (s.hd (.map none)) * F) := by
      have := sat_of_eq hp (B := pts c (s.hd (.map none)) * F) (by simp only [layC, ptsL_cons, ptsL_nil, sep_emp])
      exact this
    have g := (sat_get hc).1
    have gl := (sat_get hc).2
    have hne : c ≠ H.nx := by omega
    unfold CS.hd at g
    have h1 := sat_new (.cells [] Ty.cells_Word .fix) hc
    have h2 := sat_new (.iter none 0 0 []) h1
    have hmk : mkS [.int .u32 0, .int .u64 0] Ty.cells_Word 16 (.int .i64 0) (.int .i64 ((0 : Nat) : Int)) = some (.cells (zrow [.int .u32 0, .int .u64 0] 0) Ty.cells_Word .fix, rowTo 0 0) := mkS_ok (by omega) (by omega)
    simp only [RS, List.cons_append, List.nil_append, Option.isNone_some, Option.isNone_none, Option.isSome_some, Option.isSome_none, Nat.zero_add, Nat.add_zero, Nat.reduceAdd, List.getElem?_cons_zero, List.getElem?_cons_succ, List.length_cons, List.length_nil, List.all_cons, List.all_nil, Bool.and_self, Bool.and_true, Bool.true_and, Option.bind_some, Nat.reduceLeDiff, Nat.reduceEqDiff, Nat.le_refl, and_self, if_true, if_false, List.drop_zero, List.drop_succ_cons, List.take_zero, List.take_succ_cons, List.take_nil, List.drop_nil, true_and, and_true, decide_true, decide_false, Nat.reduceMul, Nat.zero_mul, Nat.one_mul, Nat.mul_one, ptr, g, hmk, get_put_eq, get_put_ne, get_new_eq, get_new_ne, ne_eq, hne, not_false_eq_true]
    refine rngM_none ?_
    refine lp_rule (fun n t H3 => 1 ≤ n ∧ t = (slc H.nx 0 0, ptr (H.new (.cells [] Ty.cells_Word .fix)).nx, ()) ∧ H3 = (H.new (.cells [] Ty.cells_Word .fix)).new (.iter none 0 0 [])) ?_ ?_ ⟨by omega, rfl, rfl⟩
    · rintro n t H3 ⟨-, rfl, rfl⟩ R hR
      simp only [RS, List.cons_append, List.nil_append, Option.isNone_some, Option.isNone_none, Option.isSome_some, Option.isSome_none, Nat.zero_add, Nat.add_zero, Nat.reduceAdd, List.getElem?_cons_zero, List.getElem?_cons_succ, List.length_cons, List.length_nil, List.all_cons, List.all_nil, Bool.and_self, Bool.and_true, Bool.true_and, Option.bind_some, Nat.reduceLeDiff, Nat.reduceEqDiff, Nat.le_refl, and_self, if_true, if_false, List.drop_zero, List.drop_succ_cons, List.take_zero, List.take_succ_cons, List.take_nil, List.drop_nil, true_and, and_true, decide_true, decide_false, Nat.reduceMul, Nat.zero_mul, Nat.one_mul, Nat.mul_one]
      refine nxt_none (sat_get h2).1 ?_
      simp only [RS, List.cons_append, List.nil_append, Option.isNone_some, Option.isNone_none, Option.isSome_some, Option.isSome_none, Nat.zero_add, Nat.add_zero, Nat.reduceAdd, List.getElem?_cons_zero, List.getElem?_cons_succ, List.length_cons, List.length_nil, List.all_cons, List.all_nil, Bool.and_self, Bool.and_true, Bool.true_and, Option.bind_some, Nat.reduceLeDiff, Nat.reduceEqDiff, Nat.le_refl, and_self, if_true, if_false, List.drop_zero, List.drop_succ_cons, List.take_zero, List.take_succ_cons, List.take_nil, List.drop_nil, true_and, and_true, decide_true, decide_false, Nat.reduceMul, Nat.zero_mul, Nat.one_mul, Nat.mul_one]
      have h3 : sat _ (pts H.nx (wobj #[]) * (pts c (s.hd (.map none)) * F)) := sat_sub h2
      refine sortFunc_ok (d := #[]) (m := H.nx) (cap := 0) (by simp) h3 fun R' H4 r1 r2 h4 => ?_
      have hR0 : R' = #[] := Array.eq_empty_of_size_eq_zero (by rw [r1.1]; rfl)
      subst hR0
      refine hK H.nx H4 ?_
      have h5 : sat H4 (pts c (s.hd (.map none)) * (pts H.nx (.cells (flatW []) Ty.cells_Word .fix) * F)) := sat_of_eq h4 (by show pts H.nx (.cells (flatW []) Ty.cells_Word .fix) * (pts c (s.hd (.map none)) * F) = _; ac_rfl)
      refine sat_obj.2 ⟨none, ⟨hq, hrng⟩, ?_⟩
      exact sat_of_eq h5 (by simp only [layC, ptsL_cons, ptsL_nil, sep_emp])
    · rintro t H3 ⟨h, -⟩; omega
  | some w =>
    obtain ⟨hm, hl⟩ := hq
    have hperm := words_perm hm hl hL
    have hlw : w.l.length = L.length := by rw [← hperm.length_eq]; simp [wordsOf]
    have hel : w.es.length = L.length := by rw [hm.len]; exact hlw
    obtain ⟨X, hX⟩ : ∃ X, X = ptsL (layC c s (some w)) := ⟨_, rfl⟩
    have facts : ∀ H1 G, sat H1 (X * G) → H1.get c = some (s.hd (.map (some w.m))) ∧ c < H1.nx ∧ H1.get w.m = some (.map w.es w.clk) ∧ w.m < H1.nx := by
      intro H1 G h
      rw [hX] at h
      obtain ⟨-, hg⟩ := sat_ptsL h
      have g1 := hg (c, s.hd (.map (some w.m))) (by simp [layC])
      have g2 := hg (w.m, .map w.es w.clk) (by simp [layC])
      exact ⟨g1.1, g1.2, g2.1, g2.2⟩
    rw [← hX] at hp
    obtain ⟨g1, g2, g3, g4⟩ := facts _ _ hp
    have hne : c ≠ H.nx := by omega
    have hmk : mkS [.int .u32 0, .int .u64 0] Ty.cells_Word 16 (.int .i64 0) (.int .i64 ((L.length : Nat) : Int)) = some (.cells (zrow [.int .u32 0, .int .u64 0] L.length) Ty.cells_Word .fix, rowTo 0 L.length) := mkS_ok (by omega) (by omega)
    have hlen2 : lenO (some (.map w.es w.clk)) = some (.int .i64 ((L.length : Nat) : Int)) := by unfold lenO; simp only [hel]
    have h1 := sat_new (.cells (zrow [.int .u32 0, .int .u64 0] L.length) Ty.cells_Word .fix) hp
    have h2 := sat_new (.iter (some w.m) w.clk w.clk []) h1
    have g3' : (H.new (.cells (zrow [.int .u32 0, .int .u64 0] L.length) Ty.cells_Word .fix)).get w.m = some (.map w.es w.clk) := (facts _ (pts H.nx (.cells (zrow [.int .u32 0, .int .u64 0] L.length) Ty.cells_Word .fix) * F) (sat_of_eq h1 (by ac_rfl))).2.2.1
    unfold CS.hd at g1
    simp only [RS, List.cons_append, List.nil_append, Option.isNone_some, Option.isNone_none, Option.isSome_some, Option.isSome_none, Nat.zero_add, Nat.add_zero, Nat.reduceAdd, List.getElem?_cons_zero, List.getElem?_cons_succ, List.length_cons, List.length_nil, List.all_cons, List.all_nil, Bool.and_self, Bool.and_true, Bool.true_and, Option.bind_some, Nat.reduceLeDiff, Nat.reduceEqDiff, Nat.le_refl, and_self, if_true, if_false, List.drop_zero, List.drop_succ_cons, List.take_zero, List.take_succ_cons, List.take_nil, List.drop_nil, true_and, and_true, decide_true, decide_false, Nat.reduceMul, Nat.zero_mul, Nat.one_mul, Nat.mul_one, ptr, g1, g3, hlen2, hmk, get_put_eq, get_put_ne, get_new_eq, get_new_ne, ne_eq, hne, not_false_eq_true]
    refine rngM_some g3' ?_
    refine lp_rule (fun n t H3 => ∃ l1 l2 : IL, (l1 ++ l2).Perm w.l ∧ l2.length < n ∧ t = (slc H.nx (wordsOf s.f l1).length L.length, ptr (H.nx + 1), ()) ∧
      sat H3 (pts H.nx (.cells (flatW (wordsOf s.f l1) ++ zrow [.int .u32 0, .int .u64 0] (L.length - (wordsOf s.f l1).length)) Ty.cells_Word .fix) * (pts (H.nx + 1) (.iter (some w.m) w.clk w.clk (l1.map (·.2.2))) * (X * F)))) ?_ ?_
      ⟨[], w.l, List.Perm.refl _, by omega, rfl, ?_⟩
    · rintro n t H3 ⟨l1, l2, hpm, hn, rfl, h3⟩ R hR
      have h3' : sat H3 (pts (H.nx + 1) (.iter (some w.m) w.clk w.clk (l1.map (·.2.2))) * (X * (pts H.nx (.cells (flatW (wordsOf s.f l1) ++ zrow [.int .u32 0, .int .u64 0] (L.length - (wordsOf s.f l1).length)) Ty.cells_Word .fix) * F))) := sat_of_eq h3 (by ac_rfl)
      have gi := (sat_get h3').1
      have gm := (facts _ _ (sat_sub h3')).2.2.1
      have hWl : (wordsOf s.f l1).length = l1.length := by simp [wordsOf]
      have hl12 : l1.length + l2.length = L.length := by rw [← hlw, ← hpm.length_eq, List.length_append]
      simp only [RS, List.cons_append, List.nil_append, Option.isNone_some, Option.isNone_none, Option.isSome_some, Option.isSome_none, Nat.zero_add, Nat.add_zero, Nat.reduceAdd, List.getElem?_cons_zero, List.getElem?_cons_succ, List.length_cons, List.length_nil, List.all_cons, List.all_nil, Bool.and_self, Bool.and_true, Bool.true_and, Option.bind_some, Nat.reduceLeDiff, Nat.reduceEqDiff, Nat.le_refl, and_self, if_true, if_false, List.drop_zero, List.drop_succ_cons, List.take_zero, List.take_succ_cons, List.take_nil, List.drop_nil, true_and, and_true, decide_true, decide_false, Nat.reduceMul, Nat.zero_mul, Nat.one_mul, Nat.mul_one]
      refine nxt_rule hm hpm gi gm ?_ ?_
      · rintro rfl
        rw [List.append_nil] at hpm
        simp only [RS, List.cons_append, List.nil_append, Option.isNone_some, Option.isNone_none, Option.isSome_some, Option.isSome_none, Nat.zero_add, Nat.add_zero, Nat.reduceAdd, List.getElem?_cons_zero, List.getElem?_cons_succ, List.length_cons, List.length_nil, List.all_cons, List.all_nil, Bool.and_self, Bool.and_true, Bool.true_and, Option.bind_some, Nat.reduceLeDiff, Nat.reduceEqDiff, Nat.le_refl, and_self, if_true, if_false, List.drop_zero, List.drop_succ_cons, List.take_zero, List.take_succ_cons, List.take_nil, List.drop_nil, true_and, and_true, decide_true, decide_false, Nat.reduceMul, Nat.zero_mul, Nat.one_mul, Nat.mul_one]
        have hW : (wordsOf s.f l1).Perm L := (hpm.map _).trans hperm
        have hWL : (wordsOf s.f l1).length = L.length := hW.length_eq
        have h5 : sat H3 (pts H.nx (wobj (wordsOf s.f l1).toArray) * (X * F)) := by
          have := sat_sub h3'
          have e : flatW (wordsOf s.f l1) ++ zrow [.int .u32 0, .int .u64 0] (L.length - (wordsOf s.f l1).length) = flatD (wordsOf s.f l1).toArray := by
            rw [hWL, Nat.sub_self, flatD_toArray]; simp [zrow]
          rw [e] at this
          exact sat_of_eq this (by ac_rfl)
        have e2 : slc H.nx (wordsOf s.f l1).length L.length = slc H.nx (wordsOf s.f l1).toArray.size L.length := by simp
        rw [e2]
        refine sortFunc_ok (d := (wordsOf s.f l1).toArray) (m := H.nx) (cap := L.length) (by simp; omega) h5 fun R' H4 r1 r2 h4 => ?_
        have hRL := words_sorted hL hW r1 r2
        have e3 : slc H.nx (wordsOf s.f l1).toArray.size L.length = slc H.nx L.length L.length := by simp [hWL]
        rw [e3]
        refine hK H.nx H4 (sat_obj.2 ⟨some w, ⟨⟨hm, hl⟩, hrng⟩, ?_⟩)
        have e4 : flatD R' = flatW L := by unfold flatD; rw [hRL]
        rw [← e4, ← hX]
        exact sat_of_eq h4 (by ac_rfl)
      · rintro ⟨k, v, b⟩ s1 t1 rfl
        have hpl : (k, v, b) ∈ w.l := hpm.mem_iff.1 (by simp)
        obtain ⟨hv, hv0⟩ := entry_val hm hl hpl
        simp only at hv hv0
        subst hv
        have h4 := sat_put (.iter (some w.m) w.clk w.clk ((l1 ++ [((k, Value.int .u64 (s.f k), b) : Int × Value × Nat)]).map (·.2.2))) h3'
        have gm4 := (facts _ _ (sat_sub h4)).2.2.1
        have he := ent_rule (l1 := l1) hm hpl (get_put_eq H3 (H.nx + 1) _) gm4
        simp only [RS, List.cons_append, List.nil_append, Option.isNone_some, Option.isNone_none, Option.isSome_some, Option.isSome_none, Nat.zero_add, Nat.add_zero, Nat.reduceAdd, List.getElem?_cons_zero, List.getElem?_cons_succ, List.length_cons, List.length_nil, List.all_cons, List.all_nil, Bool.and_self, Bool.and_true, Bool.true_and, Option.bind_some, Nat.reduceLeDiff, Nat.reduceEqDiff, Nat.le_refl, and_self, if_true, if_false, List.drop_zero, List.drop_succ_cons, List.take_zero, List.take_succ_cons, List.take_nil, List.drop_nil, true_and, and_true, decide_true, decide_false, Nat.reduceMul, Nat.zero_mul, Nat.one_mul, Nat.mul_one, he]
        have h5 := sat_new (.cells (rowW (k, s.f k)) Ty.cells_Word .fix) h4
        have h6 := sat_of_eq (B := pts H.nx (.cells (flatW (wordsOf s.f l1) ++ zrow [.int .u32 0, .int .u64 0] (L.length - (wordsOf s.f l1).length)) Ty.cells_Word .fix) * (pts (H3.put (H.nx + 1) (.iter (some w.m) w.clk w.clk ((l1 ++ [((k, Value.int .u64 (s.f k), b) : Int × Value × Nat)]).map (·.2.2)))).nx (.cells (rowW (k, s.f k)) Ty.cells_Word .fix) * (pts (H.nx + 1) (.iter (some w.m) w.clk w.clk ((l1 ++ [((k, Value.int .u64 (s.f k), b) : Int × Value × Nat)]).map (·.2.2))) * (X * F)))) h5 (by ac_rfl)
        obtain ⟨H7, e7, h7⟩ := app_fill (by rw [hWl]; simp at hl12; omega) h6
        have hw1 : wordsOf s.f (l1 ++ [(k, Value.int .u64 (s.f k), b)]) = wordsOf s.f l1 ++ [(k, s.f k)] := by simp [wordsOf]
        unfold rowW at e7
        simp only [AH.nx_put] at e7
        simp only [e7, bn2_some]
        refine hR _ _ ⟨l1 ++ [(k, Value.int .u64 (s.f k), b)], s1 ++ t1, ?_, ?_, ?_, ?_⟩
        · refine List.Perm.trans ?_ hpm
          rw [List.append_assoc]
          exact List.Perm.append_left _ (by simpa using List.perm_middle.symm)
        · simp at hn ⊢; omega
        · rw [hw1]
        · rw [hw1]
          exact sat_of_eq (sat_sub (sat_of_eq (B := pts (H3.put (H.nx + 1) (.iter (some w.m) w.clk w.clk ((l1 ++ [((k, Value.int .u64 (s.f k), b) : Int × Value × Nat)]).map (·.2.2)))).nx (.cells (rowW (k, s.f k)) Ty.cells_Word .fix) * (pts H.nx (.cells (flatW (wordsOf s.f l1 ++ [(k, s.f k)]) ++ zrow [.int .u32 0, .int .u64 0] (L.length - (wordsOf s.f l1 ++ [(k, s.f k)]).length)) Ty.cells_Word .fix) * (pts (H.nx + 1) (.iter (some w.m) w.clk w.clk ((l1 ++ [((k, Value.int .u64 (s.f k), b) : Int × Value × Nat)]).map (·.2.2))) * (X * F)))) h7 (by ac_rfl))) rfl
    · rintro t H3 ⟨l1, l2, -, h, -⟩; omega
    · exact sat_of_eq h2 (by show pts (H.nx + 1) _ * (pts H.nx _ * (X * F)) = pts H.nx _ * (pts (H.nx + 1) _ * (X * F)); ac_rfl)
end Go.Proofs.Ytiolnpeniklhiaa
