/- The statement SpecsVoid holds, as a card: for every two notes the law returns true, and its arguments read as they did.
   Conditions: none beyond the statement. -/
import Derived.Test.YtiolnpeniklhiaaGreatDoorSpVoid
import Derived.Test.YtiolnpeniklhiaaGreatDoorSpNotes
namespace Go.Proofs.YtiolnpeniklhiaaGreatDoor.specsVoid
open Go.ChangeShapes Go.WideShapes Go.ChangeAt Go.RowKit Go.Ab
set_option linter.all false
set_option maxRecDepth 100000

theorem bareS : ∀ n : NV, n.row.all bare = true := fun _ => rfl
theorem note_in {W : World} {v : Value} {H : Type} {enc : TypeId × Value → H} {d : DataW H} {p : List MemPlace} {b0 : Nat} (hok : Value.okWide Tryz.prog W .any b0 Ty.notes_Note v)
    (h : DataW.Trod enc Tryz.prog W 0 (fun _ => true) true Ty.notes_Note v d p) : ∃ n : NV, v = n.val ∧ n.fit := by
  obtain ⟨xs, rfl, -⟩ := okWide_struct Tryz.underlying36 hok
  obtain ⟨fuel, hfu⟩ := h
  have hc : cellsOK noteK xs.toList := flat_sound (m := 3) (by kernel_rfl) hfu
  obtain ⟨n, e, hn⟩ := note_cells hc
  refine ⟨n, ?_, hn⟩
  show Value.agg xs = .agg ⟨n.row⟩
  rw [← e]
theorem walk {W : World} {v0 v1 : Value} {H : Type} {enc : TypeId × Value → H} {d0 d1 : DataW H} {p0 p1 : List MemPlace} {b0 : Nat} (hL : laidMetH Tryz.prog [("layby/notes.names", Rows.laid_layby_notes_names)] W)
    (hok0 : Value.okWide Tryz.prog W .any b0 Ty.notes_Note v0) (h0 : DataW.Trod enc Tryz.prog W 0 (fun _ => true) true Ty.notes_Note v0 d0 p0)
    (hok1 : Value.okWide Tryz.prog W .any b0 Ty.notes_Note v1) (h1 : DataW.Trod enc Tryz.prog W 0 (fun _ => true) true Ty.notes_Note v1 d1 p1) :
    Calls Tryz.prog Fi.laybylaw37_SpecsVoid #[v0, v1] W fun e w' => e = .returned (.bool true) ∧ Grown W w' := by
  obtain ⟨H0, i0, s0⟩ := card.imp hL
  obtain ⟨a, rfl, ha⟩ := note_in hok0 h0
  obtain ⟨b, rfl, hb⟩ := note_in hok1 h1
  exact i0.walk (args := [a.val, b.val]) (.cons (.agg (CVs.of_bare (bareS a))) (.cons (.agg (CVs.of_bare (bareS b))) .nil)) (SpecsVoid_ds ha hb s0 fun _ => rfl)

def zN : Value := .agg #[.int .i64 0, .int .i64 0, .int .u8 0, .int .u32 0, .int .i64 0, .int .u32 0, .int .u64 0]
theorem laid_met (os : Os) : laidMet Tryz.prog Rows.specsVoidRow.laid ((card.laidWorld os).forCall (fun _ _ => 0) ⟨#[], #[zN, zN], []⟩).memory :=
  laidMet_of_run' 8 (by kernel_rfl) (by kernel_rfl)
theorem reads (os : Os) {H : Type} (enc : TypeId × Value → H) : ∃ ds places, DataW.whole enc Tryz.prog ((card.laidWorld os).forCall (fun _ _ => 0) ⟨#[], #[zN, zN], []⟩).memory Tryz.f4.params.toList Rows.specsVoidSpec.vars false #[zN, zN].toList 8 = some (ds, [], places) :=
  ⟨[.agg [.lit (.int .i64 0), .lit (.int .i64 0), .lit (.int .u8 0), .lit (.int .u32 0), .lit (.int .i64 0), .lit (.int .u32 0), .lit (.int .u64 0)], .agg [.lit (.int .i64 0), .lit (.int .i64 0), .lit (.int .u8 0), .lit (.int .u32 0), .lit (.int .i64 0), .lit (.int .u32 0), .lit (.int .u64 0)]], [], by kernel_rfl⟩
theorem contract (H : Type) (enc : TypeId × Value → H) (W : World) (base : Nat) (args : Array Value) (ds gs : List (DataW H)) (before : List MemPlace)
    (hval0 : ∀ (j : Nat) t v, Tryz.f4.params[j]? = some t → args[j]? = some v → Value.okWide Tryz.prog W .any base t v)
    (hW : DataW.Whole enc Tryz.prog Tryz.f4.params.toList Rows.specsVoidSpec.vars false W args.toList ds gs before) (hL : laidMetH Tryz.prog Rows.specsVoidRow.laid W) :
    Calls Tryz.prog 4 args W fun e W' => ∃ v, e = .returned v ∧ Rows.specsVoidSpec.post enc Tryz.prog Tryz.f4 false true false false W args v W' := by
  have hval : ∀ (j : Nat) t v, Tryz.f4.params[j]? = some t → args[j]? = some v → Value.okWide Tryz.prog W .any base t v := hval0
  have hW' := hW
  obtain ⟨p, q, hA0, hV, rfl, hfz, hnd⟩ := hW
  have hA : DataW.TrodAll enc Tryz.prog W 0 (fun _ => true) true Tryz.f4.params.toList args.toList ds p := hA0
  have hAk := hA
  rw [Tryz.params4] at hA hval
  obtain ⟨v0, vs0, d0, ds0, p0, q0, hargs, rfl, rfl, h0, r0⟩ := trodAll_cons hA
  obtain ⟨v1, vs1, d1, ds1, p1, q1, rfl, rfl, rfl, h1, r1⟩ := trodAll_cons r0
  obtain ⟨rfl, rfl, rfl⟩ := trodAll_nil r1
  obtain rfl : args = #[v0, v1] := by cases args; simp_all
  obtain ⟨rfl, rfl⟩ := trodVars_none hV
  have hlt : ∀ x ∈ p0 ++ (p1 ++ []), x.block < W.heap.size := fun x hx => hW'.lt x (by simpa using hx)
  refine (walk hL (hval 0 _ v0 rfl rfl) h0 (hval 1 _ v1 rfl rfl) h1).mono fun e W' ⟨he, hg⟩ => ?_
  subst he
  exact ⟨_, rfl, post_of_same (pv := []) hW' (fun _ _ _ => (trodAll_cons_mk (shut_bool Tryz.underlying4 _) trodAll_mk0)) (fun sp hsp => again card.kids card.full hg (by rw [Tryz.params4]; decide) hAk (fun x hx => hsp x (by simpa using hx)) hlt) (fun _ _ => rfl) (by simp)
    (hg.frame _) hg.2.1 (ok_one (by kernel_rfl) rfl (okWide_bool_mk Tryz.underlying4 _))⟩

set_option maxRecDepth 100000 in
theorem lifted (os : Os) (started : os.Started) (H : Type) (enc : TypeId × Value → H) (F : Stop.Interp) :
    ReturnsInHanded {} Tryz.checked os 4 .any ((OpenSpec.ofChange Rows.specsVoidSpec).preRow enc Tryz.prog Tryz.f4 Rows.specsVoidRow.domain false Rows.specsVoidRow.laid) (((OpenSpec.ofChange Rows.specsVoidSpec).at F).post enc Tryz.prog Tryz.f4 false true false false) := by
  obtain ⟨ds, places, hx⟩ := reads os enc
  refine returnsInHanded_of_row (C := Tryz.checked) (s := OpenSpec.ofChange Rows.specsVoidSpec) card.own started (by kernel_rfl) Tryz.func4
    (witness_row_at (enc := enc) (C := Tryz.checked) false (card.laidWorld os) #[zN, zN] rfl (by kernel_rfl) (by kernel_rfl) (by kernel_rfl)
      (OpenSpec.preRow_of_cond 8 hx (by kernel_rfl) (fun k hk => by cases hk) (by kernel_rfl) (laid_met os))) ?_
  intro W base args ds gs before hval hW _ _ _ hL _ _
  exact contract H enc W base args ds gs before hval hW hL
theorem said : Rows.SpecsVoidSaid :=
  OpenClaim.holds_of_cond 4 Tryz.f4 rfl rfl rfl rfl rfl rfl rfl ⟨rfl, rfl, rfl, rfl, rfl⟩ rfl rfl rfl rfl rfl (by kernel_rfl) Tryz.func4 (by kernel_rfl)
    (of_decide_eq_true (by kernel_rfl)) (by unfold Func.isWrapper; first | (rw [if_pos (by decide +kernel)]; kernel_rfl) | (rw [if_neg (by decide +kernel)]; exact ⟨rfl, rfl⟩))
    (fun os started H enc _ F => by rw [OpenClaim.pre_eq_preRow]; exact lifted os started H enc F)
theorem plain (f : FuncId) (fn : Func) (hf : Tryz.pinned.checked.prog.funcNamed "layby/laybylaw37.SpecsVoid" = some f) (hfn : Tryz.pinned.checked.prog.funcs[f]? = some fn) :
    false = Tryz.pinned.checked.prog.looks [] ∧ ∀ (j : Nat) t, fn.params[j]? = some t → Tryz.pinned.checked.prog.wantsStandIn t = false := by
  obtain rfl : f = 4 := Option.some.inj ((show Tryz.prog.funcNamed "layby/laybylaw37.SpecsVoid" = some 4 by kernel_rfl).symm.trans hf) |>.symm
  obtain rfl : fn = Tryz.f4 := (Option.some.inj (Tryz.func4.symm.trans hfn)).symm
  refine ⟨by kernel_rfl, fun j t ht => ?_⟩
  rw [Tryz.params4] at ht
  have ht2 := Array.mem_of_getElem? ht
  simp only [List.mem_toArray, List.mem_cons, List.not_mem_nil, or_false] at ht2
  rcases ht2 with rfl | rfl <;> exact (show Tryz.prog.wantsStandIn Ty.notes_Note = false by kernel_rfl)
/-- The statement. -/
theorem proved : Rows.SpecsVoidCardSaid :=
  Claim7.holds_tied_plain_at .later [] _ _ _ _ said (fun _ h => by cases h) (by kernel_rfl) (fun _ h => by cases h) specsVoid_row_tie rfl ⟨rfl, rfl⟩ (by kernel_rfl) rfl plain (by kernel_rfl)
#print axioms proved
end Go.Proofs.YtiolnpeniklhiaaGreatDoor.specsVoid
