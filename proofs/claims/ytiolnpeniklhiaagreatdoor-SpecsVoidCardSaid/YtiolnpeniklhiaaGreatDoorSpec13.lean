/- The abstract system: what it tells of a once; no state at all.
   Conditions: what stands in memory, as each states it. -/
import Derived.Test.YtiolnpeniklhiaaGreatDoorSpec12
namespace Go.Proofs.YtiolnpeniklhiaaGreatDoor
open Go Go.Ab
set_option linter.all false
set_option maxRecDepth 100000
section
variable {H : AH} {F : SL} {K : KV} {p : Nat} {s : SS}
def onV (x : OnS) : Value := .agg ⟨[.int .i64 (x.by_ - 1), .bool x.dn, .bool x.sk]⟩
theorem Once_ok {a : Int} (ho : s.ok) (hs : sat H (StA p s * F)) (hK : ∀ H', sat H' (StA p s * F) → K (onV (s.on a)) H') : DS Tryz.prog Fi.specs_State_Once [ptr p, .int .u32 a] H K := by
  refine use_specs_State_Once 0 ?_
  unfold sh_specs_State_Once
  have hn := sat_new (.cells [.int .i64 0, .bool false, .bool false] Ty.specs_Once .fix) hs
  have gn := (sat_get hn).1
  have nil_case : s.on a = .zero → K (onV .zero) ((H.new (.cells [.int .i64 0, .bool false, .bool false] Ty.specs_Once .fix)).put H.nx (.cells [.int .i64 (-1), .bool false, .bool false] Ty.specs_Once .fix)) := by
    intro hz
    rw [hz] at hK
    exact hK _ (sat_sub (sat_put _ hn))
  rcases sat_StA.1 hs with h | ⟨hu, h⟩
  · obtain ⟨d, hd, h0⟩ := sat_StR.1 h
    have h1 : sat (H.new (.cells [.int .i64 0, .bool false, .bool false] Ty.specs_Once .fix)) (pts p (d.hd s) * (d.maps * (pts H.nx (.cells [.int .i64 0, .bool false, .bool false] Ty.specs_Once .fix) * F))) := sat_of_eq (sat_new _ h0) (by ac_rfl)
    have g := (sat_get h1).1
    obtain ⟨o, e, c⟩ := map_look (k := a) (z := .pointer none) (ok := false) (maps_n h1)
    simp only [DX.hd, hdS] at g
    rcases c with ⟨rfl, hno⟩ | ⟨v, x, rfl, hx, h2⟩
    · have hz : s.on a = .zero := by rw [hd.on, hno]; rfl
      simp only [lkV, cond_false] at e
      simp only [RS, List.cons_append, List.nil_append, Option.isNone_some, Option.isNone_none, Option.isSome_some, Option.isSome_none, Nat.zero_add, Nat.add_zero, Nat.reduceAdd, List.getElem?_cons_zero, List.getElem?_cons_succ, List.length_cons, List.length_nil, List.all_cons, List.all_nil, Bool.and_self, Bool.and_true, Bool.true_and, Option.bind_some, Nat.reduceLeDiff, Nat.reduceEqDiff, Nat.le_refl, and_self, if_true, if_false, List.drop_zero, List.drop_succ_cons, List.take_zero, List.take_succ_cons, List.take_nil, List.drop_nil, true_and, and_true, decide_true, decide_false, Nat.reduceMul, Nat.zero_mul, Nat.one_mul, Nat.mul_one, g, gn, e, get_put_eq, get_put_ne, get_new_eq, get_new_ne]
      exact nil_case hz
    · have hz : s.on a = x := by rw [hd.on, hx]; rfl
      have hxo := ho.on a
      rw [hz] at hK hxo
      have hw : IntKind.i64.wrap (x.by_ - 1) = x.by_ - 1 := w64n (by omega)
      unfold onF at h2
      rw [sat_exS] at h2
      obtain ⟨n, h2⟩ := h2
      rw [sep_assoc, sat_lift] at h2
      obtain ⟨rfl, h3⟩ := h2
      have gl := (sat_get h3).1
      simp only [lkV, cond_false] at e
      simp only [RS, List.cons_append, List.nil_append, Option.isNone_some, Option.isNone_none, Option.isSome_some, Option.isSome_none, Nat.zero_add, Nat.add_zero, Nat.reduceAdd, List.getElem?_cons_zero, List.getElem?_cons_succ, List.length_cons, List.length_nil, List.all_cons, List.all_nil, Bool.and_self, Bool.and_true, Bool.true_and, Option.bind_some, Nat.reduceLeDiff, Nat.reduceEqDiff, Nat.le_refl, and_self, if_true, if_false, List.drop_zero, List.drop_succ_cons, List.take_zero, List.take_succ_cons, List.take_nil, List.drop_nil, true_and, and_true, decide_true, decide_false, Nat.reduceMul, Nat.zero_mul, Nat.one_mul, Nat.mul_one, g, gn, e, gl, hw, get_put_eq, get_put_ne, get_new_eq, get_new_ne]
      exact hK _ (sat_sub (sat_put _ hn))
  · have h1 : sat (H.new (.cells [.int .i64 0, .bool false, .bool false] Ty.specs_Once .fix)) (pts p (hdS s none none none none none) * (pts H.nx (.cells [.int .i64 0, .bool false, .bool false] Ty.specs_Once .fix) * F)) := sat_of_eq (sat_new _ h) (by ac_rfl)
    have g := (sat_get h1).1
    simp only [hdS] at g
    simp only [RS, List.cons_append, List.nil_append, Option.isNone_some, Option.isNone_none, Option.isSome_some, Option.isSome_none, Nat.zero_add, Nat.add_zero, Nat.reduceAdd, List.getElem?_cons_zero, List.getElem?_cons_succ, List.length_cons, List.length_nil, List.all_cons, List.all_nil, Bool.and_self, Bool.and_true, Bool.true_and, Option.bind_some, Nat.reduceLeDiff, Nat.reduceEqDiff, Nat.le_refl, and_self, if_true, if_false, List.drop_zero, List.drop_succ_cons, List.take_zero, List.take_succ_cons, List.take_nil, List.drop_nil, true_and, and_true, decide_true, decide_false, Nat.reduceMul, Nat.zero_mul, Nat.one_mul, Nat.mul_one, g, gn, get_put_eq, get_put_ne, get_new_eq, get_new_ne]
    exact nil_case (hu.on a)
end
end Go.Proofs.YtiolnpeniklhiaaGreatDoor
