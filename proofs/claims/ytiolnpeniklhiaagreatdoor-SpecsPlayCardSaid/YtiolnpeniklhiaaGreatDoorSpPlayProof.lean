/- The statement SpecsPlay holds, as a card: for every list of notes the law returns true, and its argument reads as it did.
   Conditions: none beyond the statement. -/
import Derived.Test.YtiolnpeniklhiaaGreatDoorSpPlay
namespace Go.Proofs.YtiolnpeniklhiaaGreatDoor.specsPlay
open Go.ChangeShapes Go.WideShapes Go.ChangeAt Go.RowKit Go.Ab
set_option linter.all false
set_option maxRecDepth 100000

theorem walk {W : World} {v0 : Value} {H : Type} {enc : TypeId × Value → H} {d0 : DataW H} {p0 : List MemPlace} {b0 : Nat} (hL : laidMetH Tryz.prog [("layby/notes.names", Rows.laid_layby_notes_names)] W) (hok0 : Value.okWide Tryz.prog W .any b0 Ty.s_notes_Note v0)
    (h0 : DataW.Trod enc Tryz.prog W 0 (fun _ => true) true Ty.s_notes_Note v0 d0 p0) :
    Calls Tryz.prog Fi.laybylaw37_SpecsPlay #[v0] W fun e w' => e = .returned (.bool true) ∧ Grown W w' := by
  obtain ⟨H0, i0, s0⟩ := card.imp hL
  obtain ⟨H1, ρ1, a1, rows1, B1, i1, le1, c1, k1, s1, o1⟩ := i0.slice Ty.notes_Note (slice_in (e := Ty.notes_Note) (ds := noteK) (by kernel_rfl) 3 (by kernel_rfl) (by kernel_rfl) hok0 h0)
  obtain ⟨l, rfl, hl⟩ := rows_notes k1
  have main : ∃ g, ∀ H', sat H' (B1 * emp) → RowN H' g a1 l := by
    rcases o1 with ⟨rfl, e, rfl⟩ | ⟨g, cap, rfl, rfl⟩
    · obtain rfl : l = [] := List.map_eq_nil_iff.1 e
      exact ⟨0, fun H' _ => rowN_nil H' 0⟩
    · refine ⟨g, fun H' h' => ?_⟩
      rw [List.length_map]
      exact rowN_ro (sat_get h').1
  obtain ⟨g, hg⟩ := main
  exact i1.walk (args := [a1]) (.cons c1 .nil) (SpecsPlay_ds (F := B1 * emp) hg hl (sat_of_eq (s1 _ s0) (by ac_rfl)) fun _ => rfl)

theorem laid_met (os : Os) : laidMet Tryz.prog Rows.specsPlayRow.laid ((card.laidWorld os).forCall (fun _ _ => 0) ⟨#[], #[.slice none 0 0], []⟩).memory :=
  laidMet_of_run' 8 (by kernel_rfl) (by kernel_rfl)
theorem reads (os : Os) {H : Type} (enc : TypeId × Value → H) : ∃ ds places, DataW.whole enc Tryz.prog ((card.laidWorld os).forCall (fun _ _ => 0) ⟨#[], #[.slice none 0 0], []⟩).memory Tryz.f3.params.toList Rows.specsPlaySpec.vars false #[Value.slice none 0 0].toList 8 = some (ds, [], places) :=
  ⟨[.nil], [], by kernel_rfl⟩
theorem contract (H : Type) (enc : TypeId × Value → H) (W : World) (base : Nat) (args : Array Value) (ds gs : List (DataW H)) (before : List MemPlace)
    (hval0 : ∀ (j : Nat) t v, Tryz.f3.params[j]? = some t → args[j]? = some v → Value.okWide Tryz.prog W .any base t v)
    (hW : DataW.Whole enc Tryz.prog Tryz.f3.params.toList Rows.specsPlaySpec.vars false W args.toList ds gs before) (hL : laidMetH Tryz.prog Rows.specsPlayRow.laid W) :
    Calls Tryz.prog 3 args W fun e W' => ∃ v, e = .returned v ∧ Rows.specsPlaySpec.post enc Tryz.prog Tryz.f3 false true false false W args v W' := by
  have hval : ∀ (j : Nat) t v, Tryz.f3.params[j]? = some t → args[j]? = some v → Value.okWide Tryz.prog W .any base t v := hval0
  have hW' := hW
  obtain ⟨p, q, hA0, hV, rfl, hfz, hnd⟩ := hW
  have hA : DataW.TrodAll enc Tryz.prog W 0 (fun _ => true) true Tryz.f3.params.toList args.toList ds p := hA0
  have hAk := hA
  rw [Tryz.params3] at hA hval
  obtain ⟨v0, vs0, d0, ds0, p0, q0, hargs, rfl, rfl, h0, r0⟩ := trodAll_cons hA
  obtain ⟨rfl, rfl, rfl⟩ := trodAll_nil r0
  obtain rfl : args = #[v0] := by cases args; simp_all
  obtain ⟨rfl, rfl⟩ := trodVars_none hV
  have hlt : ∀ x ∈ p0 ++ [], x.block < W.heap.size := fun x hx => hW'.lt x (by simpa using hx)
  refine (walk hL (hval 0 _ v0 rfl rfl) h0).mono fun e W' ⟨he, hg⟩ => ?_
  subst he
  exact ⟨_, rfl, post_of_same (pv := []) hW' (fun _ _ _ => (trodAll_cons_mk (shut_bool Tryz.underlying4 _) trodAll_mk0)) (fun sp hsp => again card.kids card.full hg (by rw [Tryz.params3]; decide) hAk (fun x hx => hsp x (by simpa using hx)) hlt) (fun _ _ => rfl) (by simp)
    (hg.frame _) hg.2.1 (ok_one (by kernel_rfl) rfl (okWide_bool_mk Tryz.underlying4 _))⟩

set_option maxRecDepth 100000 in
theorem lifted (os : Os) (started : os.Started) (H : Type) (enc : TypeId × Value → H) (F : Stop.Interp) :
    ReturnsInHanded {} Tryz.checked os 3 .any ((OpenSpec.ofChange Rows.specsPlaySpec).preRow enc Tryz.prog Tryz.f3 Rows.specsPlayRow.domain false Rows.specsPlayRow.laid) (((OpenSpec.ofChange Rows.specsPlaySpec).at F).post enc Tryz.prog Tryz.f3 false true false false) := by
  obtain ⟨ds, places, hx⟩ := reads os enc
  refine returnsInHanded_of_row (C := Tryz.checked) (s := OpenSpec.ofChange Rows.specsPlaySpec) card.own started (by kernel_rfl) Tryz.func3
    (witness_row_at (enc := enc) (C := Tryz.checked) false (card.laidWorld os) #[.slice none 0 0] rfl (by kernel_rfl) (by kernel_rfl) (by kernel_rfl)
      (OpenSpec.preRow_of_cond 8 hx (by kernel_rfl) (fun k hk => by cases hk) (by kernel_rfl) (laid_met os))) ?_
  intro W base args ds gs before hval hW _ _ _ hL _ _
  exact contract H enc W base args ds gs before hval hW hL
theorem said : Rows.SpecsPlaySaid :=
  OpenClaim.holds_of_cond 3 Tryz.f3 rfl rfl rfl rfl rfl rfl rfl ⟨rfl, rfl, rfl, rfl, rfl⟩ rfl rfl rfl rfl rfl (by kernel_rfl) Tryz.func3 (by kernel_rfl)
    (of_decide_eq_true (by kernel_rfl)) (by unfold Func.isWrapper; first | (rw [if_pos (by decide +kernel)]; kernel_rfl) | (rw [if_neg (by decide +kernel)]; exact ⟨rfl, rfl⟩))
    (fun os started H enc _ F => by rw [OpenClaim.pre_eq_preRow]; exact lifted os started H enc F)
theorem plain (f : FuncId) (fn : Func) (hf : Tryz.pinned.checked.prog.funcNamed "layby/laybylaw37.SpecsPlay" = some f) (hfn : Tryz.pinned.checked.prog.funcs[f]? = some fn) :
    false = Tryz.pinned.checked.prog.looks [] ∧ ∀ (j : Nat) t, fn.params[j]? = some t → Tryz.pinned.checked.prog.wantsStandIn t = false := by
  obtain rfl : f = 3 := Option.some.inj ((show Tryz.prog.funcNamed "layby/laybylaw37.SpecsPlay" = some 3 by kernel_rfl).symm.trans hf) |>.symm
  obtain rfl : fn = Tryz.f3 := (Option.some.inj (Tryz.func3.symm.trans hfn)).symm
  refine ⟨by kernel_rfl, fun j t ht => ?_⟩
  rw [Tryz.params3] at ht
  have ht2 := Array.mem_of_getElem? ht
  simp only [List.mem_toArray, List.mem_cons, List.not_mem_nil, or_false] at ht2
  subst ht2
  exact (show Tryz.prog.wantsStandIn Ty.s_notes_Note = false by kernel_rfl)
/-- The statement. -/
theorem proved : Rows.SpecsPlayCardSaid :=
  Claim7.holds_tied_plain_at .later [] _ _ _ _ said (fun _ h => by cases h) (by kernel_rfl) (fun _ h => by cases h) specsPlay_row_tie rfl ⟨rfl, rfl⟩ (by kernel_rfl) rfl plain (by kernel_rfl)
#print axioms proved
end Go.Proofs.YtiolnpeniklhiaaGreatDoor.specsPlay
