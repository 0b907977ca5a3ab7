/- Slices of numbers copied and made longer; the abstract system's state, and how it lies in memory.
   Conditions: what stands in memory, as each states it. -/
import Derived.Test.YtiolnpeniklhiaaGreatDoorSpec1
namespace Go.Proofs.YtiolnpeniklhiaaGreatDoor
open Go Go.Ab
set_option linter.all false
set_option maxRecDepth 100000

theorem ints_plain (xs : List Int) : (ints xs).all plain = true := by
  rw [List.all_eq_true]
  intro v hv
  obtain ⟨x, _, rfl⟩ := List.mem_map.1 hv
  rfl
theorem srcS_row {H : AH} {m cap : Nat} {sp : Option Nat} {xs : List Int} {e : List Value} {T : TypeId} {k : CK} (h : H.get m = some (.cells (ints xs ++ e) T k)) : srcS 1 (.slice (some ⟨m, 0, sp⟩) xs.length cap) H = some (ints xs, xs.length) := by
  have hc : ((ints xs ++ e).drop 0).take (xs.length * 1) = ints xs := by
    rw [List.drop_zero, Nat.mul_one, List.take_append_of_le_length (by simp), List.take_of_length_le (by simp)]
  have hb : Nat.beq (ints xs).length (xs.length * 1) = true := by rw [Nat.beq_eq]; simp
  simp only [srcS, h, hc, hb, cond_true]
def isClone (H : AH) (xs : List Int) (v : Value) (H' : AH) : Prop :=
  (xs = [] ∧ v = .slice none 0 0 ∧ H' = H) ∨ (xs = [] ∧ v = .slice (some ⟨H.nx, 0, none⟩) 0 0 ∧ H' = H.new (.cells [] Ty.int .fix)) ∨
  (v = .slice (some ⟨H.nx + 1, 0, none⟩) xs.length xs.length ∧ H' = (H.new (.cells [] Ty.int .fix)).new (.cells (ints xs) Ty.int .opn))
theorem Clone_ok {x : Bool} {H : AH} {v : Value} {xs : List Int} {F : SL} {K : KV} (h : sat H (sliceA x v xs * F)) (hl : xs.length < 1000000) (hK : ∀ v' H', isClone H xs v' H' → K v' H') : DS Tryz.prog Fi.slices_Clone_int_int [v] H K := by
  refine use_slices_Clone_int_int 0 ?_
  unfold sh_slices_Clone_int_int
  rcases sat_slice.1 h with ⟨rfl, rfl, -⟩ | ⟨m, e, k, rfl, -, -, h4⟩
  · simp only [RS, List.cons_append, List.nil_append, Option.isNone_some, Option.isNone_none, Option.isSome_some, Option.isSome_none, Nat.zero_add, Nat.add_zero, Nat.reduceAdd, List.getElem?_cons_zero, List.getElem?_cons_succ, List.length_cons, List.length_nil, List.all_cons, List.all_nil, Bool.and_self, Bool.and_true, Bool.true_and, Option.bind_some, Nat.reduceLeDiff, Nat.reduceEqDiff, Nat.le_refl, and_self, if_true, if_false, List.drop_zero, List.drop_succ_cons, List.take_zero, List.take_succ_cons, List.take_nil, List.drop_nil, true_and, and_true, decide_true, decide_false, Nat.reduceMul, Nat.zero_mul, Nat.one_mul, Nat.mul_one]
    exact hK _ _ (.inl ⟨rfl, rfl, rfl⟩)
  · have g := sat_get h4
    have g' : (H.new (.cells [] Ty.int .fix)).get m = some (.cells (ints xs ++ e) Ty.int k) := by rw [AH.get_new, if_neg (by omega)]; exact g.1
    have g0 : (H.new (.cells [] Ty.int .fix)).get H.nx = some (.cells [] Ty.int .fix) := by rw [AH.get_new, if_pos rfl]
    simp only [RS, List.cons_append, List.nil_append, Option.isNone_some, Option.isNone_none, Option.isSome_some, Option.isSome_none, Nat.zero_add, Nat.add_zero, Nat.reduceAdd, List.getElem?_cons_zero, List.getElem?_cons_succ, List.length_cons, List.length_nil, List.all_cons, List.all_nil, Bool.and_self, Bool.and_true, Bool.true_and, Option.bind_some, Nat.reduceLeDiff, Nat.reduceEqDiff, Nat.le_refl, and_self, if_true, if_false, List.drop_zero, List.drop_succ_cons, List.take_zero, List.take_succ_cons, List.take_nil, List.drop_nil, true_and, and_true, decide_true, decide_false, Nat.reduceMul, Nat.zero_mul, Nat.one_mul, Nat.mul_one, fillA_nil]
    cases xs with
    | nil =>
      have ha : appS 1 8 Ty.int (.slice (some ⟨H.nx, 0, none⟩) 0 0) (.slice (some ⟨m, 0, none⟩) ([] : List Int).length (([] : List Int).length + e.length)) (H.new (.cells [] Ty.int .fix)) = some (.slice (some ⟨H.nx, 0, none⟩) 0 0, H.new (.cells [] Ty.int .fix)) := by
        have hs : srcS 1 (.slice (some ⟨m, 0, none⟩) 0 (0 + e.length)) (H.new (.cells [] Ty.int .fix)) = some ([], 0) := srcS_row (xs := []) g'
        simp only [appS, List.length_nil, hs, g0]
        rfl
      simp only [List.length_nil, Nat.zero_add] at ha
      simp only [RS, List.cons_append, List.nil_append, Option.isNone_some, Option.isNone_none, Option.isSome_some, Option.isSome_none, Nat.zero_add, Nat.add_zero, Nat.reduceAdd, List.getElem?_cons_zero, List.getElem?_cons_succ, List.length_cons, List.length_nil, List.all_cons, List.all_nil, Bool.and_self, Bool.and_true, Bool.true_and, Option.bind_some, Nat.reduceLeDiff, Nat.reduceEqDiff, Nat.le_refl, and_self, if_true, if_false, List.drop_zero, List.drop_succ_cons, List.take_zero, List.take_succ_cons, List.take_nil, List.drop_nil, true_and, and_true, decide_true, decide_false, Nat.reduceMul, Nat.zero_mul, Nat.one_mul, Nat.mul_one, ha]
      exact hK _ _ (.inr (.inl ⟨rfl, rfl, rfl⟩))
    | cons y ys =>
      generalize hxs : y :: ys = xs at *
      have hpos : 0 < xs.length := by rw [← hxs]; simp
      have e1 : Nat.ble (0 + xs.length) 0 = false := by
        cases hq : Nat.ble (0 + xs.length) 0 with
        | false => rfl
        | true => rw [Nat.ble_eq] at hq; omega
      have e2 : Nat.ble ((2 * (0 + xs.length) + 1024) * 8) (2 ^ 48) = true := by rw [Nat.ble_eq]; omega
      have ha : appS 1 8 Ty.int (.slice (some ⟨H.nx, 0, none⟩) 0 0) (.slice (some ⟨m, 0, none⟩) xs.length (xs.length + e.length)) (H.new (.cells [] Ty.int .fix)) =
          some (.slice (some ⟨H.nx + 1, 0, none⟩) xs.length xs.length, (H.new (.cells [] Ty.int .fix)).new (.cells (ints xs) Ty.int .opn)) := by
        simp only [appS, srcS_row (xs := xs) g', g0, ints_plain, cond_true, e1, e2, cond_false]
        simp
      simp only [RS, List.cons_append, List.nil_append, Option.isNone_some, Option.isNone_none, Option.isSome_some, Option.isSome_none, Nat.zero_add, Nat.add_zero, Nat.reduceAdd, List.getElem?_cons_zero, List.getElem?_cons_succ, List.length_cons, List.length_nil, List.all_cons, List.all_nil, Bool.and_self, Bool.and_true, Bool.true_and, Option.bind_some, Nat.reduceLeDiff, Nat.reduceEqDiff, Nat.le_refl, and_self, if_true, if_false, List.drop_zero, List.drop_succ_cons, List.take_zero, List.take_succ_cons, List.take_nil, List.drop_nil, true_and, and_true, decide_true, decide_false, Nat.reduceMul, Nat.zero_mul, Nat.one_mul, Nat.mul_one, ha]
      exact hK _ _ (.inr (.inr ⟨rfl, rfl⟩))
theorem clone_sat {H H' : AH} {xs : List Int} {v : Value} {A : SL} (h : isClone H xs v H') (hA : sat H A) : sat H' (sliceA true v xs * A) := by
  rcases h with ⟨rfl, rfl, rfl⟩ | ⟨rfl, rfl, rfl⟩ | ⟨rfl, rfl⟩
  · exact slice_nil hA
  · exact sat_slice.2 (.inr ⟨_, [], .fix, rfl, rfl, fun _ => rfl, sat_new _ hA⟩)
  · have h1 := sat_new (.cells (ints xs) Ty.int .opn) (sat_sub (sat_new (.cells [] Ty.int .fix) hA))
    exact sat_slice.2 (.inr ⟨_, [], .opn, rfl, rfl, fun _ => rfl, by rw [List.append_nil]; exact h1⟩)
/-- The same where a name had been set aside. -/
theorem clone_res {H H' : AH} {xs : List Int} {v : Value} {A : SL} {o : AObj} (h : isClone H.res xs v H') (hA : sat H A) : sat (H'.put H.nx o) (pts H.nx o * (sliceA true v xs * A)) ∧ H'.get H.nx = H.get H.nx := by
  have h0 : sat H (ptsL [] * A) := by rw [ptsL_nil, emp_sep]; exact hA
  rcases h with ⟨rfl, rfl, rfl⟩ | ⟨rfl, rfl, rfl⟩ | ⟨rfl, rfl⟩
  · refine ⟨?_, rfl⟩
    have := sat_upd (H' := H.res.put H.nx o) (l' := [(H.nx, o)]) h0 (by simp) (fun n hn _ => by rw [AH.get_put, if_neg (by omega), AH.get_res]) (fun p hp => by simp at hp; subst hp; simp [AH.get_put]) (by simp)
    rw [ptsL_cons, ptsL_nil, sep_emp] at this
    exact sat_of_eq (slice_nil (sat_of_eq this rfl)) (by ac_rfl)
  · refine ⟨?_, by rw [AH.get_new, if_neg (by simp), AH.get_res]⟩
    have := sat_upd (H' := (H.res.new (.cells [] Ty.int .fix)).put H.nx o) (l' := [(H.nx, o), (H.nx + 1, .cells [] Ty.int .fix)]) h0 (by simp; omega)
      (fun n hn _ => by rw [AH.get_put, if_neg (by omega), AH.get_new, if_neg (by simp; omega), AH.get_res])
      (fun p hp => by simp at hp; rcases hp with rfl | rfl <;> simp [AH.get_put, AH.get_new] <;> omega) (by simp)
    rw [ptsL_cons, ptsL_cons, ptsL_nil, sep_emp] at this
    exact sat_of_eq (sat_slice (x := true) (v := .slice (some ⟨H.nx + 1, 0, none⟩) 0 0) (xs := []) (F := pts H.nx o * A).2 (.inr ⟨_, [], .fix, rfl, rfl, fun _ => rfl, sat_of_eq this (by simp only [List.map_nil, List.append_nil]; ac_rfl)⟩)) (by ac_rfl)
  · refine ⟨?_, by rw [AH.get_new, if_neg (by simp; omega), AH.get_new, if_neg (by simp), AH.get_res]⟩
    have := sat_upd (H' := ((H.res.new (.cells [] Ty.int .fix)).new (.cells (ints xs) Ty.int .opn)).put H.nx o) (l' := [(H.nx, o), (H.nx + 2, .cells (ints xs) Ty.int .opn)]) h0 (by simp; omega)
      (fun n hn _ => by rw [AH.get_put, if_neg (by omega), AH.get_new, if_neg (by simp; omega), AH.get_new, if_neg (by simp; omega), AH.get_res])
      (fun p hp => by simp at hp; rcases hp with rfl | rfl <;> simp [AH.get_put, AH.get_new] <;> omega) (by simp)
    rw [ptsL_cons, ptsL_cons, ptsL_nil, sep_emp] at this
    exact sat_of_eq (sat_slice (x := true) (v := .slice (some ⟨H.nx + 2, 0, none⟩) xs.length xs.length) (xs := xs) (F := pts H.nx o * A).2 (.inr ⟨_, [], .opn, rfl, rfl, fun _ => rfl, sat_of_eq this (by rw [List.append_nil]; ac_rfl)⟩)) (by ac_rfl)
theorem app1_ok {H : AH} {v : Value} {xs : List Int} {t : Int} {b : Nat} {Tb : TypeId} {kb : CK} {F : SL} (h : sat H (sliceA true v xs * (pts b (.cells [.int .i64 t] Tb kb) * F))) (hl : xs.length < 1000000) :
    ∃ v' H', appS 1 8 Ty.int v (.slice (some ⟨b, 0, none⟩) 1 1) H = some (v', H') ∧ sat H' (sliceA true v' (xs ++ [t]) * (pts b (.cells [.int .i64 t] Tb kb) * F)) := by
  have gb : H.get b = some (.cells (ints [t] ++ []) Tb kb) := (sat_get (sat_sub h)).1
  have hs : srcS 1 (.slice (some ⟨b, 0, none⟩) 1 1) H = some (ints [t], 1) := srcS_row (xs := [t]) gb
  rcases sat_slice.1 h with ⟨rfl, rfl, h3⟩ | ⟨m, e, k, rfl, hrw, he, h4⟩
  · refine ⟨.slice (some ⟨H.nx, 0, none⟩) 1 1, H.new (.cells (ints [t]) Ty.int .opn), ?_, ?_⟩
    · simp only [appS, hs, ints_plain, cond_true]
      rfl
    · exact sat_slice.2 (.inr ⟨_, [], .opn, rfl, rfl, fun _ => rfl, by rw [List.append_nil]; exact sat_new _ h3⟩)
  · obtain rfl := he rfl
    have g := (sat_get h4).1
    have e1 : Nat.ble (xs.length + 1) (xs.length + 0) = false := by
      cases hq : Nat.ble (xs.length + 1) (xs.length + 0) with
      | false => rfl
      | true => rw [Nat.ble_eq] at hq; omega
    have e2 : Nat.ble ((2 * (xs.length + 1) + 1024) * 8) (2 ^ 48) = true := by rw [Nat.ble_eq]; omega
    have e3 : ((ints xs ++ []).drop 0).take (xs.length * 1) = ints xs := by rw [List.drop_zero, List.append_nil, Nat.mul_one, List.take_of_length_le (by simp)]
    have e4 : Nat.beq (ints xs).length (xs.length * 1) = true := by rw [Nat.beq_eq]; simp
    have e5 : Nat.beq (0 + (xs.length + 0) * 1) (ints xs ++ []).length = true := by rw [Nat.beq_eq]; simp
    have e6 : Nat.beq Ty.int Ty.int = true := Nat.beq_refl _
    have e7 : Nat.ble xs.length (xs.length + 0) = true := by rw [Nat.ble_eq]; exact Nat.le_refl _
    have hcell : ints xs ++ ints [t] = ints (xs ++ [t]) := by simp
    cases hk : decide (k = .opn) with
    | false =>
      refine ⟨.slice (some ⟨H.nx, 0, none⟩) (xs.length + 1) (xs.length + 1), H.new (.cells (ints (xs ++ [t])) Ty.int .opn), ?_, ?_⟩
      · simp only [appS, hs, ints_plain, cond_true, g, List.length_nil, e1, cond_false, e3, e4, e2, Bool.and_self, Option.isSome_none, hk, Bool.not_false, Bool.or_true, hcell]
      · refine sat_slice.2 (.inr ⟨H.nx, [], .opn, by simp, rfl, fun _ => rfl, ?_⟩)
        rw [List.append_nil]
        exact sat_new _ (sat_sub h4)
    | true =>
      refine ⟨.slice (some ⟨H.nx, 0, none⟩) (xs.length + 1) (xs.length + 1), (H.del m).new (.cells (ints (xs ++ [t])) Ty.int .opn), ?_, ?_⟩
      · simp only [appS, hs, ints_plain, cond_true, g, List.length_nil, e1, cond_false, e3, e4, e2, Bool.and_self, Option.isSome_none, hk, Bool.not_true, Bool.or_self, e5, e6, e7, hcell]
      · refine sat_slice.2 (.inr ⟨H.nx, [], .opn, by simp, rfl, fun _ => rfl, ?_⟩)
        rw [List.append_nil]
        exact sat_new _ (sat_del h4)

/-! ### the abstract system -/
structure LkS where
  rd : List Int
  up : Int
  cl : Int
  wr : Bool
structure OnS where
  by_ : Int
  dn : Bool
  sk : Bool
def LkS.zero : LkS := ⟨[], 0, 0, false⟩
def OnS.zero : OnS := ⟨0, false, false⟩
/-- What there is; owners, claims and bodies are one more than they are. -/
structure SS where
  step : Int
  seen : Bool
  q : Int → List Int
  ow : Int → Int
  lk : Int → LkS
  on : Int → OnS
  wa : Int → Option Int
def SS.zero : SS := ⟨0, false, fun _ => [], fun _ => 0, fun _ => .zero, fun _ => .zero, fun _ => none⟩
structure LkS.ok (l : LkS) : Prop where
  nd : l.rd.Nodup
  rg : ∀ t ∈ l.rd, 0 ≤ t ∧ t < 64
  up : 0 ≤ l.up ∧ l.up ≤ 64
  cl : 0 ≤ l.cl ∧ l.cl ≤ 64
  wr : l.wr = true → l.cl ≠ 0 ∧ l.rd = [] ∧ l.up = 0
  no : l.up ≠ 0 → l.up - 1 ∉ l.rd
structure SS.ok (s : SS) : Prop where
  qt : ∀ a t, t ∈ s.q a → 0 ≤ t ∧ t < 64
  qn : ∀ a, (s.q a).Nodup
  qu : ∀ a b t, t ∈ s.q a → t ∈ s.q b → a = b
  ow : ∀ a, 0 ≤ s.ow a ∧ s.ow a ≤ 64
  lk : ∀ a, (s.lk a).ok
  on : ∀ a, 0 ≤ (s.on a).by_ ∧ (s.on a).by_ ≤ 64
theorem few : ∀ (n : Nat) (l : List Int), l.Nodup → (∀ t ∈ l, 0 ≤ t ∧ t < (n : Int)) → l.length ≤ n
  | 0, l, _, h => by
    cases l with
    | nil => simp
    | cons x l => have := h x (by simp); omega
  | n + 1, l, hn, h => by
    have h1 := few n (l.filter fun x => x != (n : Int)) (hn.sublist List.filter_sublist) fun t ht => by
      obtain ⟨h2, h3⟩ := List.mem_filter.1 ht
      have := h t h2
      have h4 : t ≠ (n : Int) := by simpa using h3
      omega
    have h5 : l.length ≤ (l.filter fun x => x != (n : Int)).length + 1 := by
      by_cases hm : (n : Int) ∈ l
      · obtain ⟨a, b, rfl⟩ := List.append_of_mem hm
        have hna : (n : Int) ∉ a := fun e => (List.nodup_append.1 hn).2.2 _ e _ (by simp) rfl
        have hnb : (n : Int) ∉ b := (List.nodup_cons.1 (List.nodup_append.1 hn).2.1).1
        rw [List.filter_append, List.filter_cons]
        have ea : a.filter (fun x => x != (n : Int)) = a := List.filter_eq_self.2 fun x hx => by simpa using fun e : x = (n : Int) => hna (e ▸ hx)
        have eb : b.filter (fun x => x != (n : Int)) = b := List.filter_eq_self.2 fun x hx => by simpa using fun e : x = (n : Int) => hnb (e ▸ hx)
        rw [ea, eb]
        simp only [List.length_append, List.length_cons]
        split <;> simp <;> omega
      · have : l.filter (fun x => x != (n : Int)) = l := List.filter_eq_self.2 fun x hx => by simpa using fun e : x = (n : Int) => hm (e ▸ hx)
        rw [this]; omega
    omega
theorem SS.ok.qlen {s : SS} (h : s.ok) (a : Int) : (s.q a).length ≤ 64 := few 64 _ (h.qn a) fun t ht => h.qt a t ht
theorem LkS.zero_ok : LkS.zero.ok := ⟨by simp [LkS.zero], by simp [LkS.zero], by simp [LkS.zero], by simp [LkS.zero], by simp [LkS.zero], by simp [LkS.zero]⟩
theorem SS.zero_ok : SS.zero.ok := ⟨by simp [SS.zero], by simp [SS.zero], by simp [SS.zero], by simp [SS.zero], fun a => LkS.zero_ok, by simp [SS.zero, OnS.zero]⟩

def rdF : Int → Unit → Value → SL := fun _ _ v => lift (v = .int .i64 1)
def rdD (rd : List Int) (t : Int) : Option Unit := if t ∈ rd then some () else none
def qF : Int → List Int → Value → SL := fun _ xs v => sliceA false v xs
def owF : Int → Int → Value → SL := fun _ x v => lift (v = .int .i64 x)
def lkF : Int → LkS → Value → SL := fun _ x v => ex fun q : Nat × Nat => lift (v = ptr q.1) * (pts q.1 (.cells [.map (some q.2), .int .i64 x.up, .int .i64 x.cl, .bool x.wr] Ty.specs_lock .fix) * mapA .i64 q.2 (rdD x.rd) rdF)
def onF : Int → OnS → Value → SL := fun _ x v => ex fun n : Nat => lift (v = ptr n) * pts n (.cells [.int .i64 x.by_, .bool x.dn, .bool x.sk] Ty.specs_once .fix)
def waF : Int → Int → Value → SL := fun _ x v => lift (v = .int .u32 x)
/-- Where the maps lie, and what they hold. -/
structure DX where
  mq : Nat
  mo : Nat
  ml : Nat
  mn : Nat
  mw : Nat
  Dq : Int → Option (List Int)
  Do : Int → Option Int
  Dl : Int → Option LkS
  Dn : Int → Option OnS
  Dw : Int → Option Int
structure DX.rel (d : DX) (s : SS) : Prop where
  q : ∀ a, s.q a = (d.Dq a).getD []
  ow : ∀ a, s.ow a = (d.Do a).getD 0
  lk : ∀ a, s.lk a = (d.Dl a).getD .zero
  on : ∀ a, s.on a = (d.Dn a).getD .zero
  wa : ∀ t, s.wa t = d.Dw (t + 1)
def hdS (s : SS) (q o l n w : Option Nat) : AObj := .cells [.int .i64 s.step, .bool s.seen, .map q, .map o, .map l, .map n, .map w] Ty.specs_State .fix
def DX.hd (d : DX) (s : SS) : AObj := hdS s (some d.mq) (some d.mo) (some d.ml) (some d.mn) (some d.mw)
def DX.maps (d : DX) : SL := mapA .u32 d.mq d.Dq qF * (mapA .u32 d.mo d.Do owF * (mapA .u32 d.ml d.Dl lkF * (mapA .u32 d.mn d.Dn onF * mapA .i64 d.mw d.Dw waF)))
def StR (p : Nat) (s : SS) : SL := ex fun d : DX => lift (d.rel s) * (pts p (d.hd s) * d.maps)
theorem sat_StR {H : AH} {p : Nat} {s : SS} {F : SL} : sat H (StR p s * F) ↔ ∃ d : DX, d.rel s ∧ sat H (pts p (d.hd s) * (d.maps * F)) := by
  unfold StR
  rw [sat_exS]
  constructor
  · rintro ⟨d, h⟩
    rw [sep_assoc, sat_lift, sep_assoc] at h
    exact ⟨d, h⟩
  · rintro ⟨d, h⟩
    refine ⟨d, ?_⟩
    rw [sep_assoc, sat_lift, sep_assoc]
    exact h
end Go.Proofs.YtiolnpeniklhiaaGreatDoor
