/- The abstract system: what it tells of an address.
   Conditions: what stands in memory, as each states it. -/
import Derived.Test.YtiolnpeniklhiaaGreatDoorSpec11
namespace Go.Proofs.YtiolnpeniklhiaaGreatDoor
open Go Go.Ab
set_option linter.all false
set_option maxRecDepth 100000

/-- A list told: new memory, without room behind it. -/
def toldA (v : Value) (xs : List Int) : SL :=
  ex fun q : Option (Nat × CK) => match q with
    | none => lift (v = .slice none 0 0 ∧ xs = [])
    | some (m, k) => lift (v = .slice (some ⟨m, 0, some 0⟩) xs.length xs.length ∧ k.rw = true) * pts m (.cells (ints xs) Ty.int k)
theorem sat_told {H : AH} {v : Value} {xs : List Int} {F : SL} : sat H (toldA v xs * F) ↔
    (v = .slice none 0 0 ∧ xs = [] ∧ sat H F) ∨ ∃ m k, v = .slice (some ⟨m, 0, some 0⟩) xs.length xs.length ∧ k.rw = true ∧ sat H (pts m (.cells (ints xs) Ty.int k) * F) := by
  unfold toldA
  rw [sat_exS]
  constructor
  · rintro ⟨q, h⟩
    cases q with
    | none => rw [sat_lift] at h; exact .inl ⟨h.1.1, h.1.2, h.2⟩
    | some q =>
      obtain ⟨m, k⟩ := q
      simp only at h
      rw [sep_assoc, sat_lift] at h
      exact .inr ⟨m, k, h.1.1, h.1.2, h.2⟩
  · rintro (⟨h1, h2, h3⟩ | ⟨m, k, h1, h2, h4⟩)
    · exact ⟨none, by simp only; rw [sat_lift]; exact ⟨⟨h1, h2⟩, h3⟩⟩
    · exact ⟨some (m, k), by simp only; rw [sep_assoc, sat_lift]; exact ⟨⟨h1, h2⟩, h4⟩⟩
theorem told_row {H : AH} {v : Value} {xs : List Int} {F : SL} (h : sat H (toldA v xs * F)) : RowI H v xs := by
  rcases sat_told.1 h with ⟨rfl, rfl, -⟩ | ⟨m, k, rfl, -, h4⟩
  · exact ⟨fun t => rfl, fun i x hi => by simp at hi⟩
  · exact row_cells (e := []) (by rw [List.append_nil]; exact (sat_get h4).1)
section
variable {H : AH} {F : SL} {K : KV} {p : Nat} {s : SS}
theorem Clip_ok {v : Value} {xs : List Int} (hs : sat H (sliceA true v xs * F)) (hK : ∀ v', sat H (toldA v' xs * F) → K v' H) : DS Tryz.prog Fi.slices_Clip_int_int [v] H K := by
  refine use_slices_Clip_int_int 0 ?_
  unfold sh_slices_Clip_int_int
  have row := slice_row hs
  simp only [RS, List.cons_append, List.nil_append, Option.isNone_some, Option.isNone_none, Option.isSome_some, Option.isSome_none, Nat.zero_add, Nat.add_zero, Nat.reduceAdd, List.getElem?_cons_zero, List.getElem?_cons_succ, List.length_cons, List.length_nil, List.all_cons, List.all_nil, Bool.and_self, Bool.and_true, Bool.true_and, Option.bind_some, Nat.reduceLeDiff, Nat.reduceEqDiff, Nat.le_refl, and_self, if_true, if_false, List.drop_zero, List.drop_succ_cons, List.take_zero, List.take_succ_cons, List.take_nil, List.drop_nil, true_and, and_true, decide_true, decide_false, Nat.reduceMul, Nat.zero_mul, Nat.one_mul, Nat.mul_one, row.len]
  rcases sat_slice.1 hs with ⟨rfl, rfl, h⟩ | ⟨m, e, k, rfl, hrw, he, h4⟩
  · have e1 : slcS 1 (.slice none 0 0) none (some (.int .i64 ((([] : List Int).length : Nat) : Int))) (some (.int .i64 ((([] : List Int).length : Nat) : Int))) H = some (.slice none 0 0) := rfl
    simp only [RS, List.cons_append, List.nil_append, Option.isNone_some, Option.isNone_none, Option.isSome_some, Option.isSome_none, Nat.zero_add, Nat.add_zero, Nat.reduceAdd, List.getElem?_cons_zero, List.getElem?_cons_succ, List.length_cons, List.length_nil, List.all_cons, List.all_nil, Bool.and_self, Bool.and_true, Bool.true_and, Option.bind_some, Nat.reduceLeDiff, Nat.reduceEqDiff, Nat.le_refl, and_self, if_true, if_false, List.drop_zero, List.drop_succ_cons, List.take_zero, List.take_succ_cons, List.take_nil, List.drop_nil, true_and, and_true, decide_true, decide_false, Nat.reduceMul, Nat.zero_mul, Nat.one_mul, Nat.mul_one] at e1
    simp only [RS, List.cons_append, List.nil_append, Option.isNone_some, Option.isNone_none, Option.isSome_some, Option.isSome_none, Nat.zero_add, Nat.add_zero, Nat.reduceAdd, List.getElem?_cons_zero, List.getElem?_cons_succ, List.length_cons, List.length_nil, List.all_cons, List.all_nil, Bool.and_self, Bool.and_true, Bool.true_and, Option.bind_some, Nat.reduceLeDiff, Nat.reduceEqDiff, Nat.le_refl, and_self, if_true, if_false, List.drop_zero, List.drop_succ_cons, List.take_zero, List.take_succ_cons, List.take_nil, List.drop_nil, true_and, and_true, decide_true, decide_false, Nat.reduceMul, Nat.zero_mul, Nat.one_mul, Nat.mul_one, e1]
    exact hK _ (sat_told.2 (.inl ⟨rfl, rfl, h⟩))
  · obtain rfl := he rfl
    have e1 : slcS 1 (.slice (some ⟨m, 0, none⟩) xs.length (xs.length + ([] : List Value).length)) none (some (.int .i64 (xs.length : Int))) (some (.int .i64 (xs.length : Int))) H = some (.slice (some ⟨m, 0, some 0⟩) xs.length xs.length) := slcS_clip (by simp)
    simp only [List.length_nil, Nat.add_zero] at e1
    simp only [RS, List.cons_append, List.nil_append, Option.isNone_some, Option.isNone_none, Option.isSome_some, Option.isSome_none, Nat.zero_add, Nat.add_zero, Nat.reduceAdd, List.getElem?_cons_zero, List.getElem?_cons_succ, List.length_cons, List.length_nil, List.all_cons, List.all_nil, Bool.and_self, Bool.and_true, Bool.true_and, Option.bind_some, Nat.reduceLeDiff, Nat.reduceEqDiff, Nat.le_refl, and_self, if_true, if_false, List.drop_zero, List.drop_succ_cons, List.take_zero, List.take_succ_cons, List.take_nil, List.drop_nil, true_and, and_true, decide_true, decide_false, Nat.reduceMul, Nat.zero_mul, Nat.one_mul, Nat.mul_one, e1]
    rw [List.append_nil] at h4
    exact hK _ (sat_told.2 (.inr ⟨m, k, rfl, hrw, h4⟩))
theorem Queue_ok {a : Int} (ho : s.ok) (hs : sat H (StA p s * F)) (hK : ∀ v H', sat H' (toldA v (s.q a) * (StA p s * F)) → K v H') : DS Tryz.prog Fi.specs_State_Queue [ptr p, .int .u32 a] H K := by
  refine use_specs_State_Queue 0 ?_
  unfold sh_specs_State_Queue
  have hl : (s.q a).length < 1000000 := by have := ho.qlen a; omega
  rcases sat_StA.1 hs with h | ⟨hu, h⟩
  · obtain ⟨d, hd, h1⟩ := sat_StR.1 h
    have g := (sat_get h1).1
    obtain ⟨v, G, e, h2⟩ := q_look hd (maps_q h1) a
    simp only [DX.hd, hdS] at g
    simp only [RS, List.cons_append, List.nil_append, Option.isNone_some, Option.isNone_none, Option.isSome_some, Option.isSome_none, Nat.zero_add, Nat.add_zero, Nat.reduceAdd, List.getElem?_cons_zero, List.getElem?_cons_succ, List.length_cons, List.length_nil, List.all_cons, List.all_nil, Bool.and_self, Bool.and_true, Bool.true_and, Option.bind_some, Nat.reduceLeDiff, Nat.reduceEqDiff, Nat.le_refl, and_self, if_true, if_false, List.drop_zero, List.drop_succ_cons, List.take_zero, List.take_succ_cons, List.take_nil, List.drop_nil, true_and, and_true, decide_true, decide_false, Nat.reduceMul, Nat.zero_mul, Nat.one_mul, Nat.mul_one, g, e]
    refine Clone_ok h2 hl fun v' H' hc => ?_
    have h3 := clone_sat hc hs
    refine Clip_ok h3 fun v2 h4 => ?_
    exact hK _ _ h4
  · have g := (sat_get h).1
    simp only [hdS] at g
    simp only [RS, List.cons_append, List.nil_append, Option.isNone_some, Option.isNone_none, Option.isSome_some, Option.isSome_none, Nat.zero_add, Nat.add_zero, Nat.reduceAdd, List.getElem?_cons_zero, List.getElem?_cons_succ, List.length_cons, List.length_nil, List.all_cons, List.all_nil, Bool.and_self, Bool.and_true, Bool.true_and, Option.bind_some, Nat.reduceLeDiff, Nat.reduceEqDiff, Nat.le_refl, and_self, if_true, if_false, List.drop_zero, List.drop_succ_cons, List.take_zero, List.take_succ_cons, List.take_nil, List.drop_nil, true_and, and_true, decide_true, decide_false, Nat.reduceMul, Nat.zero_mul, Nat.one_mul, Nat.mul_one, g]
    refine Clone_ok (x := true) (xs := s.q a) (slice_nil (F := StA p s * F) hs |> fun h => by rw [hu.q]; exact h) hl fun v' H' hc => ?_
    have h3 := clone_sat hc hs
    refine Clip_ok h3 fun v2 h4 => ?_
    exact hK _ _ h4
/-- The readers below a number, rising. -/
def srtN (rd : List Int) (n : Nat) : List Int := ((List.range n).map fun i : Nat => (i : Int)).filter fun t => decide (t ∈ rd)
def srt (rd : List Int) : List Int := srtN rd 64
theorem srtN_succ (rd : List Int) (n : Nat) : srtN rd (n + 1) = srtN rd n ++ (if (n : Int) ∈ rd then [(n : Int)] else []) := by
  unfold srtN
  rw [List.range_succ, List.map_append, List.filter_append]
  congr 1
  by_cases h : (n : Int) ∈ rd <;> simp [h]
theorem srtN_len (rd : List Int) (n : Nat) : (srtN rd n).length ≤ n := by
  unfold srtN
  exact Nat.le_trans (List.length_filter_le _ _) (by simp)
theorem srtN_nil (n : Nat) : srtN [] n = [] := by
  unfold srtN
  rw [List.filter_eq_nil_iff]
  intro a _
  simp
/-- What is told of a lock. -/
def rwV (v : Value) (x : LkS) : Value := .agg ⟨[v, .int .i64 (x.up - 1), .int .i64 (x.cl - 1), .bool x.wr]⟩
theorem Rw_ok {a : Int} (ho : s.ok) (hs : sat H (StA p s * F)) (hK : ∀ v H', sat H' (toldA v (srt (s.lk a).rd) * (StA p s * F)) → K (rwV v (s.lk a)) H') : DS Tryz.prog Fi.specs_State_Rw [ptr p, .int .u32 a] H K := by
  refine use_specs_State_Rw 70 ?_
  unfold sh_specs_State_Rw
  have hn := sat_new (.cells [.slice none 0 0, .int .i64 0, .int .i64 0, .bool false] Ty.specs_Rw .fix) hs
  have gn := (sat_get hn).1
  have nil_case : s.lk a = .zero → K (rwV (.slice none 0 0) .zero) ((H.new (.cells [.slice none 0 0, .int .i64 0, .int .i64 0, .bool false] Ty.specs_Rw .fix)).put H.nx (.cells [.slice none 0 0, .int .i64 (-1), .int .i64 (-1), .bool false] Ty.specs_Rw .fix)) := by
    intro hz
    rw [hz] at hK
    refine hK _ _ (sat_told.2 (.inl ⟨rfl, srtN_nil 64, sat_sub (sat_put _ hn)⟩))
  rcases sat_StA.1 hs with h | ⟨hu, h⟩
  · obtain ⟨d, hd, h0⟩ := sat_StR.1 h
    have h1 := sat_new (.cells [.slice none 0 0, .int .i64 0, .int .i64 0, .bool false] Ty.specs_Rw .fix) h0
    have h1' : sat (H.new (.cells [.slice none 0 0, .int .i64 0, .int .i64 0, .bool false] Ty.specs_Rw .fix)) (pts p (d.hd s) * (d.maps * (pts H.nx (.cells [.slice none 0 0, .int .i64 0, .int .i64 0, .bool false] Ty.specs_Rw .fix) * F))) := sat_of_eq h1 (by ac_rfl)
    have g := (sat_get h1').1
    obtain ⟨o, e, c⟩ := map_look (k := a) (z := .pointer none) (ok := false) (maps_l h1')
    simp only [DX.hd, hdS] at g
    rcases c with ⟨rfl, hno⟩ | ⟨v, x, rfl, hx, h2⟩
    · have hz : s.lk a = .zero := by rw [hd.lk, hno]; rfl
      simp only [lkV, cond_false] at e
      simp only [RS, List.cons_append, List.nil_append, Option.isNone_some, Option.isNone_none, Option.isSome_some, Option.isSome_none, Nat.zero_add, Nat.add_zero, Nat.reduceAdd, List.getElem?_cons_zero, List.getElem?_cons_succ, List.length_cons, List.length_nil, List.all_cons, List.all_nil, Bool.and_self, Bool.and_true, Bool.true_and, Option.bind_some, Nat.reduceLeDiff, Nat.reduceEqDiff, Nat.le_refl, and_self, if_true, if_false, List.drop_zero, List.drop_succ_cons, List.take_zero, List.take_succ_cons, List.take_nil, List.drop_nil, true_and, and_true, decide_true, decide_false, Nat.reduceMul, Nat.zero_mul, Nat.one_mul, Nat.mul_one, g, gn, e, get_put_eq, get_put_ne, get_new_eq, get_new_ne]
      exact nil_case hz
    · have hz : s.lk a = x := by rw [hd.lk, hx]; rfl
      have hxo := ho.lk a
      rw [hz] at hK hxo
      obtain ⟨n, r, rfl, h3⟩ := sat_lkF.1 h2
      have gl := (sat_get h3).1
      have hu : IntKind.i64.wrap (x.up - 1) = x.up - 1 := w64n (by have := hxo.up; omega)
      have hc : IntKind.i64.wrap (x.cl - 1) = x.cl - 1 := w64n (by have := hxo.cl; omega)
      simp only [lkV, cond_false] at e
      simp only [RS, List.cons_append, List.nil_append, Option.isNone_some, Option.isNone_none, Option.isSome_some, Option.isSome_none, Nat.zero_add, Nat.add_zero, Nat.reduceAdd, List.getElem?_cons_zero, List.getElem?_cons_succ, List.length_cons, List.length_nil, List.all_cons, List.all_nil, Bool.and_self, Bool.and_true, Bool.true_and, Option.bind_some, Nat.reduceLeDiff, Nat.reduceEqDiff, Nat.le_refl, and_self, if_true, if_false, List.drop_zero, List.drop_succ_cons, List.take_zero, List.take_succ_cons, List.take_nil, List.drop_nil, true_and, and_true, decide_true, decide_false, Nat.reduceMul, Nat.zero_mul, Nat.one_mul, Nat.mul_one, g, gn, e, gl, hu, hc, get_put_eq, get_put_ne, get_new_eq, get_new_ne, put_res]
      have h4 := sat_put (.cells [.slice none 0 0, .int .i64 (x.up - 1), .int .i64 (x.cl - 1), .bool x.wr] Ty.specs_Rw .fix) (sat_new (.cells [.slice none 0 0, .int .i64 0, .int .i64 0, .bool false] Ty.specs_Rw .fix) h2)
      simp only [AH.nx_new] at h4
      generalize hB : ((H.new (.cells [.slice none 0 0, .int .i64 0, .int .i64 0, .bool false] Ty.specs_Rw .fix)).new (.cells [.slice none 0 0, .int .i64 0, .int .i64 0, .bool false] Ty.specs_Rw .fix)).put (H.nx + 1) (.cells [.slice none 0 0, .int .i64 (x.up - 1), .int .i64 (x.cl - 1), .bool x.wr] Ty.specs_Rw .fix) = B at h4 ⊢
      generalize hR : (mapX .u32 d.ml d.Dl lkF a (ptr n) * (pts p (d.hd s) * (mapA .u32 d.mq d.Dq qF * (mapA .u32 d.mo d.Do owF * (mapA .u32 d.mn d.Dn onF * (mapA .i64 d.mw d.Dw waF * (pts H.nx (.cells [.slice none 0 0, .int .i64 0, .int .i64 0, .bool false] Ty.specs_Rw .fix) * F))))))) = Rs at h4
      refine lp_rule (n := 70) (fun k t H1 => ∃ (i : Nat) (w : Value), i ≤ 64 ∧ 64 < k + i ∧ t = (ptr H.nx, ptr n, ptr (H.nx + 1), Value.int .i64 (i : Int), ()) ∧
        sat H1 (pts (H.nx + 1) (.cells [w, .int .i64 (x.up - 1), .int .i64 (x.cl - 1), .bool x.wr] Ty.specs_Rw .fix) * (sliceA true w (srtN x.rd i) * (lkF a x (ptr n) * Rs)))) ?_ ?_
        ⟨0, .slice none 0 0, by omega, by omega, rfl, ?_⟩
      · rintro k t H1 ⟨i, w, hi, hk, rfl, h5⟩ R hR2
        have gv := (sat_get h5).1
        have h6 : sat H1 (lkF a x (ptr n) * (pts (H.nx + 1) (.cells [w, .int .i64 (x.up - 1), .int .i64 (x.cl - 1), .bool x.wr] Ty.specs_Rw .fix) * (sliceA true w (srtN x.rd i) * Rs))) := sat_of_eq h5 (by ac_rfl)
        obtain ⟨n', r', hn', h7⟩ := sat_lkF.1 h6
        have hnn : n = n' := by simpa [ptr] using hn'
        subst hnn
        have gl2 := (sat_get h7).1
        have hwi : IntKind.i64.wrap ((i : Int) + 1) = ((i + 1 : Nat) : Int) := w64s (by omega)
        by_cases hil : i < 64
        · have hd2 : decide ((i : Int) < 64) = true := decide_eq_true (by omega)
          simp only [RS, List.cons_append, List.nil_append, Option.isNone_some, Option.isNone_none, Option.isSome_some, Option.isSome_none, Nat.zero_add, Nat.add_zero, Nat.reduceAdd, List.getElem?_cons_zero, List.getElem?_cons_succ, List.length_cons, List.length_nil, List.all_cons, List.all_nil, Bool.and_self, Bool.and_true, Bool.true_and, Option.bind_some, Nat.reduceLeDiff, Nat.reduceEqDiff, Nat.le_refl, and_self, if_true, if_false, List.drop_zero, List.drop_succ_cons, List.take_zero, List.take_succ_cons, List.take_nil, List.drop_nil, true_and, and_true, decide_true, decide_false, Nat.reduceMul, Nat.zero_mul, Nat.one_mul, Nat.mul_one, hd2, gl2, rd_look (sat_sub h7), rd_gt]
          by_cases hm : (i : Int) ∈ x.rd
          · have hb : decide ((i : Int) ∈ x.rd) = true := by simpa using hm
            have h8 := sat_new (.cells [.int .i64 (i : Int)] Ty.int .fix) h5
            have h9 : sat (H1.new (.cells [.int .i64 (i : Int)] Ty.int .fix)) (sliceA true w (srtN x.rd i) * (pts H1.nx (.cells [.int .i64 (i : Int)] Ty.int .fix) * (pts (H.nx + 1) (.cells [w, .int .i64 (x.up - 1), .int .i64 (x.cl - 1), .bool x.wr] Ty.specs_Rw .fix) * (lkF a x (ptr n) * Rs)))) := sat_of_eq h8 (by ac_rfl)
            obtain ⟨w', H2, e2, h10⟩ := app1_ok h9 (by have := srtN_len x.rd i; omega)
            have h11 : sat H2 (pts (H.nx + 1) (.cells [w, .int .i64 (x.up - 1), .int .i64 (x.cl - 1), .bool x.wr] Ty.specs_Rw .fix) * (sliceA true w' (srtN x.rd i ++ [(i : Int)]) * (lkF a x (ptr n) * Rs))) := sat_sub (A := pts H1.nx (.cells [.int .i64 (i : Int)] Ty.int .fix)) (sat_of_eq h10 (by ac_rfl))
            have gv2 := (sat_get h11).1
            have hw1 : cellsL w' = [w'] ∧ plain w' = true := by
              rcases sat_slice.1 h10 with ⟨rfl, -, -⟩ | ⟨m, e, k, rfl, -⟩ <;> exact ⟨rfl, rfl⟩
            have es : stO 1 (H.nx + 1) 0 w' H2 (some (.cells [w, .int .i64 (x.up - 1), .int .i64 (x.cl - 1), .bool x.wr] Ty.specs_Rw .fix)) = some (.tuple ⟨[]⟩, H2.put (H.nx + 1) (.cells [w', .int .i64 (x.up - 1), .int .i64 (x.cl - 1), .bool x.wr] Ty.specs_Rw .fix)) := stO_1 _ _ _ _ _ _ _ rfl hw1.1 hw1.2 (by simp)
            have ec : cellO 0 (some (.cells [w, .int .i64 (x.up - 1), .int .i64 (x.cl - 1), .bool x.wr] Ty.specs_Rw .fix)) = some w := rfl
            simp only [hb, cnd_true, fa_ptr, bn_some, bn2_some, bnA_some, ld1_ptr, gv, ec, bslT_eq, RS, List.cons_append, List.nil_append, Option.isNone_some, Option.isNone_none, Option.isSome_some, Option.isSome_none, Nat.zero_add, Nat.add_zero, Nat.reduceAdd, List.getElem?_cons_zero, List.getElem?_cons_succ, List.length_cons, List.length_nil, List.all_cons, List.all_nil, Bool.and_self, Bool.and_true, Bool.true_and, Option.bind_some, Nat.reduceLeDiff, Nat.reduceEqDiff, Nat.le_refl, and_self, if_true, if_false, List.drop_zero, List.drop_succ_cons, List.take_zero, List.take_succ_cons, List.take_nil, List.drop_nil, true_and, and_true, decide_true, decide_false, Nat.reduceMul, Nat.zero_mul, Nat.one_mul, Nat.mul_one, e2, stT_ptr, gv2, es, hwi]
            refine hR2 _ _ ⟨i + 1, w', by omega, by omega, rfl, ?_⟩
            rw [srtN_succ, if_pos hm]
            exact sat_put _ h11
          · have hb : decide ((i : Int) ∈ x.rd) = false := by simpa using hm
            simp only [RS, List.cons_append, List.nil_append, Option.isNone_some, Option.isNone_none, Option.isSome_some, Option.isSome_none, Nat.zero_add, Nat.add_zero, Nat.reduceAdd, List.getElem?_cons_zero, List.getElem?_cons_succ, List.length_cons, List.length_nil, List.all_cons, List.all_nil, Bool.and_self, Bool.and_true, Bool.true_and, Option.bind_some, Nat.reduceLeDiff, Nat.reduceEqDiff, Nat.le_refl, and_self, if_true, if_false, List.drop_zero, List.drop_succ_cons, List.take_zero, List.take_succ_cons, List.take_nil, List.drop_nil, true_and, and_true, decide_true, decide_false, Nat.reduceMul, Nat.zero_mul, Nat.one_mul, Nat.mul_one, hb, hwi]
            refine hR2 _ _ ⟨i + 1, w, by omega, by omega, rfl, ?_⟩
            rw [srtN_succ, if_neg hm, List.append_nil]
            exact h5
        · have hie : i = 64 := by omega
          subst hie
          have hd2 : decide (((64 : Nat) : Int) < 64) = false := decide_eq_false (by omega)
          have h8 : sat H1 (sliceA true w (srt x.rd) * (pts (H.nx + 1) (.cells [w, .int .i64 (x.up - 1), .int .i64 (x.cl - 1), .bool x.wr] Ty.specs_Rw .fix) * (lkF a x (ptr n) * Rs))) := sat_of_eq h5 (by unfold srt; ac_rfl)
          have ec : cellO 0 (some (.cells [w, .int .i64 (x.up - 1), .int .i64 (x.cl - 1), .bool x.wr] Ty.specs_Rw .fix)) = some w := rfl
          simp only [hd2, cnd_false, fa_ptr, bn_some, ld1_ptr, gv, ec, RS, List.cons_append, List.nil_append, Option.isNone_some, Option.isNone_none, Option.isSome_some, Option.isSome_none, Nat.zero_add, Nat.add_zero, Nat.reduceAdd, List.getElem?_cons_zero, List.getElem?_cons_succ, List.length_cons, List.length_nil, List.all_cons, List.all_nil, Bool.and_self, Bool.and_true, Bool.true_and, Option.bind_some, Nat.reduceLeDiff, Nat.reduceEqDiff, Nat.le_refl, and_self, if_true, if_false, List.drop_zero, List.drop_succ_cons, List.take_zero, List.take_succ_cons, List.take_nil, List.drop_nil, true_and, and_true, decide_true, decide_false, Nat.reduceMul, Nat.zero_mul, Nat.one_mul, Nat.mul_one]
          refine Clip_ok h8 fun w' h9 => ?_
          have h10 : sat H1 (pts (H.nx + 1) (.cells [w, .int .i64 (x.up - 1), .int .i64 (x.cl - 1), .bool x.wr] Ty.specs_Rw .fix) * (toldA w' (srt x.rd) * (lkF a x (ptr n) * Rs))) := sat_of_eq h9 (by ac_rfl)
          have hw1 : cellsL w' = [w'] ∧ plain w' = true := by
            rcases sat_told.1 h9 with ⟨rfl, -, -⟩ | ⟨m, k, rfl, -⟩ <;> exact ⟨rfl, rfl⟩
          have es : stO 1 (H.nx + 1) 0 w' H1 (some (.cells [w, .int .i64 (x.up - 1), .int .i64 (x.cl - 1), .bool x.wr] Ty.specs_Rw .fix)) = some (.tuple ⟨[]⟩, H1.put (H.nx + 1) (.cells [w', .int .i64 (x.up - 1), .int .i64 (x.cl - 1), .bool x.wr] Ty.specs_Rw .fix)) := stO_1 _ _ _ _ _ _ _ rfl hw1.1 hw1.2 (by simp)
          have h11 := sat_put (.cells [w', .int .i64 (x.up - 1), .int .i64 (x.cl - 1), .bool x.wr] Ty.specs_Rw .fix) h10
          have g11 := (sat_get h11).1
          rw [← hR] at h11
          have h12 := sat_of_eq (B := pts H.nx (.cells [.slice none 0 0, .int .i64 0, .int .i64 0, .bool false] Ty.specs_Rw .fix) * (lkF a x (ptr n) * (mapX .u32 d.ml d.Dl lkF a (ptr n) * (pts p (d.hd s) * (mapA .u32 d.mq d.Dq qF * (mapA .u32 d.mo d.Do owF * (mapA .u32 d.mn d.Dn onF * (mapA .i64 d.mw d.Dw waF * (pts (H.nx + 1) (.cells [w', .int .i64 (x.up - 1), .int .i64 (x.cl - 1), .bool x.wr] Ty.specs_Rw .fix) * (toldA w' (srt x.rd) * F)))))))))) h11 (by ac_rfl)
          have g12 := (sat_get h12).1
          have hpl : ([w', .int .i64 (x.up - 1), .int .i64 (x.cl - 1), .bool x.wr] : List Value).all plain = true := by simp only [List.all_cons, hw1.2, plain_int, plain_bool, List.all_nil, Bool.and_self]
          have es2 : ∀ H2, stO 4 H.nx 0 (.agg ⟨[w', .int .i64 (x.up - 1), .int .i64 (x.cl - 1), .bool x.wr]⟩) H2 (some (.cells [.slice none 0 0, .int .i64 0, .int .i64 0, .bool false] Ty.specs_Rw .fix)) = some (.tuple ⟨[]⟩, H2.put H.nx (.cells [w', .int .i64 (x.up - 1), .int .i64 (x.cl - 1), .bool x.wr] Ty.specs_Rw .fix)) := fun H2 =>
            (stO_N 4 _ _ _ _ _ _ _ rfl rfl hpl (by simp)).trans (by simp [splice])
          have ec4 : cellsO 4 0 (some (.cells [w', .int .i64 (x.up - 1), .int .i64 (x.cl - 1), .bool x.wr] Ty.specs_Rw .fix)) = some (.agg ⟨[w', .int .i64 (x.up - 1), .int .i64 (x.cl - 1), .bool x.wr]⟩) := rfl
          simp only [fa_ptr, bn_some, bn2_some, stT_ptr, gv, es, ldN_ptr, g11, ec4, g12, es2, get_put_eq, RS, List.cons_append, List.nil_append, Option.isNone_some, Option.isNone_none, Option.isSome_some, Option.isSome_none, Nat.zero_add, Nat.add_zero, Nat.reduceAdd, List.getElem?_cons_zero, List.getElem?_cons_succ, List.length_cons, List.length_nil, List.all_cons, List.all_nil, Bool.and_self, Bool.and_true, Bool.true_and, Option.bind_some, Nat.reduceLeDiff, Nat.reduceEqDiff, Nat.le_refl, and_self, if_true, if_false, List.drop_zero, List.drop_succ_cons, List.take_zero, List.take_succ_cons, List.take_nil, List.drop_nil, true_and, and_true, decide_true, decide_false, Nat.reduceMul, Nat.zero_mul, Nat.one_mul, Nat.mul_one]
          have h13 := map_close' (sat_sub (sat_put (.cells [w', .int .i64 (x.up - 1), .int .i64 (x.cl - 1), .bool x.wr] Ty.specs_Rw .fix) h12)) hx
          refine hK _ _ (sat_sub (A := pts (H.nx + 1) (.cells [w', .int .i64 (x.up - 1), .int .i64 (x.cl - 1), .bool x.wr] Ty.specs_Rw .fix)) ?_)
          have h14 : sat ((H1.put (H.nx + 1) (.cells [w', .int .i64 (x.up - 1), .int .i64 (x.cl - 1), .bool x.wr] Ty.specs_Rw .fix)).put H.nx (.cells [w', .int .i64 (x.up - 1), .int .i64 (x.cl - 1), .bool x.wr] Ty.specs_Rw .fix)) (StR p s * (pts (H.nx + 1) (.cells [w', .int .i64 (x.up - 1), .int .i64 (x.cl - 1), .bool x.wr] Ty.specs_Rw .fix) * (toldA w' (srt x.rd) * F))) :=
            sat_StR.2 ⟨d, hd, sat_of_eq h13 (by unfold DX.maps; ac_rfl)⟩
          have h15 := sat_StA.2 (.inl h14)
          exact sat_of_eq h15 (by ac_rfl)
      · rintro t H1 ⟨i, w, h1, h2, -⟩; omega
      · have h5 := sat_of_eq (B := pts (H.nx + 1) (.cells [.slice none 0 0, .int .i64 (x.up - 1), .int .i64 (x.cl - 1), .bool x.wr] Ty.specs_Rw .fix) * (lkF a x (ptr n) * Rs)) h4 (by rw [← hR])
        have h6 := slice_nil (x := true) h5
        exact sat_of_eq h6 (by show _ = _ * (sliceA true (.slice none 0 0) [] * _); ac_rfl)
  · have h1 : sat (H.new (.cells [.slice none 0 0, .int .i64 0, .int .i64 0, .bool false] Ty.specs_Rw .fix)) (pts p (hdS s none none none none none) * (pts H.nx (.cells [.slice none 0 0, .int .i64 0, .int .i64 0, .bool false] Ty.specs_Rw .fix) * F)) := sat_of_eq (sat_new _ h) (by ac_rfl)
    have g := (sat_get h1).1
    simp only [hdS] at g
    simp only [RS, List.cons_append, List.nil_append, Option.isNone_some, Option.isNone_none, Option.isSome_some, Option.isSome_none, Nat.zero_add, Nat.add_zero, Nat.reduceAdd, List.getElem?_cons_zero, List.getElem?_cons_succ, List.length_cons, List.length_nil, List.all_cons, List.all_nil, Bool.and_self, Bool.and_true, Bool.true_and, Option.bind_some, Nat.reduceLeDiff, Nat.reduceEqDiff, Nat.le_refl, and_self, if_true, if_false, List.drop_zero, List.drop_succ_cons, List.take_zero, List.take_succ_cons, List.take_nil, List.drop_nil, true_and, and_true, decide_true, decide_false, Nat.reduceMul, Nat.zero_mul, Nat.one_mul, Nat.mul_one, g, gn, get_put_eq, get_put_ne, get_new_eq, get_new_ne]
    exact nil_case (hu.lk a)
end
end Go.Proofs.YtiolnpeniklhiaaGreatDoor
