/- The statement SpecsTurns holds, as a card: for every list of bytes and every address the law returns true, and its arguments read as they did.
   Conditions: none beyond the statement. -/
import Derived.Test.YtiolnpeniklhiaaDoorSpTurns
import Derived.Test.YtiolnpeniklhiaaDoorSpCard
namespace Go.Proofs.YtiolnpeniklhiaaDoor.specsTurns
open Go.ChangeShapes Go.WideShapes Go.ChangeAt Go.RowKit Go.Ab
set_option linter.all false

theorem rows_bytes : ∀ {rows : List (List Value)}, (∀ r ∈ rows, cellsOK [.int .u8] r) → ∃ l : List Int, rows = l.map (fun x => [.int .u8 x]) ∧ ∀ x ∈ l, 0 ≤ x ∧ x < 256
  | [], _ => ⟨[], rfl, by simp⟩
  | r :: rows, h => by
    obtain ⟨l, h1, h2⟩ := rows_bytes (rows := rows) (fun x hx => h x (by simp [hx]))
    have hr := h r (by simp)
    obtain ⟨v1, r1, rfl, q1, hr⟩ := cellsOK_cons hr
    obtain rfl := cellsOK_nil hr
    obtain ⟨a, rfl, w1⟩ := cellOK_int q1
    simp [Lit.wf, IntKind.signed, IntKind.bits, IntKind.min, IntKind.max] at w1
    refine ⟨a :: l, by rw [h1]; rfl, fun x hx => ?_⟩
    rcases List.mem_cons.1 hx with rfl | hx
    · exact ⟨w1.1, by omega⟩
    · exact h2 x hx
theorem flat_bytes (l : List Int) : (l.map fun x => [(.int .u8 x : Value)]).flatten = l.map (.int .u8 ·) := by
  induction l with
  | nil => rfl
  | cons x l ih => simp [ih]
theorem row_ro {H : AH} {g cap : Nat} {l : List Int} {T : TypeId} (h : H.get g = some (.cells (l.map (.int .u8 ·)) T .ro)) : RowB H (.slice (some ⟨g, 0, none⟩) l.length cap) l := by
  refine ⟨fun t => rfl, fun i x hx => ?_⟩
  have hi := (List.getElem?_eq_some_iff.1 hx).1
  refine ⟨_, ixS_of 1 g 0 _ _ none .i64 i hi, ?_⟩
  rw [ld1_ptr, h, cellO_cells, Nat.zero_add, Nat.mul_one, List.getElem?_map, hx]
  rfl
theorem row_nil (H : AH) : RowB H (.slice none 0 0) [] := ⟨fun t => rfl, fun i p hp => by simp at hp⟩
theorem walk {W : World} {v0 : Value} {a : Int} {H : Type} {enc : TypeId × Value → H} {d0 : DataW H} {p0 : List MemPlace} {b0 : Nat} (hL : laidMetH Tryd.prog [("layby/notes.names", Rows.laid_layby_notes_names)] W) (hok0 : Value.okWide Tryd.prog W .any b0 Ty.s_uint8 v0)
    (h0 : DataW.Trod enc Tryd.prog W 0 (fun _ => true) true Ty.s_uint8 v0 d0 p0) :
    Calls Tryd.prog Fi.laybylaw37_SpecsTurns #[v0, .int .u32 a] W fun e w' => e = .returned (.bool true) ∧ Grown W w' := by
  obtain ⟨H0, i0, s0⟩ := card.imp hL
  obtain ⟨H1, ρ1, a1, rows1, B1, i1, le1, c1, k1, s1, o1⟩ := i0.slice Ty.uint8 (slice_in (e := Ty.uint8) (ds := [.int .u8]) (by kernel_rfl) 3 (by kernel_rfl) (by kernel_rfl) hok0 h0)
  obtain ⟨l, rfl, hl⟩ := rows_bytes k1
  refine i1.walk (args := [a1, .int .u32 a]) (.cons c1 (.cons (.int _ _) .nil)) (SpecsTurns_ds (F := B1 * emp) (l := l) (fun H' h' => ?_) hl (sat_of_eq (s1 _ s0) (by ac_rfl)) fun _ => rfl)
  rcases o1 with ⟨rfl, e, rfl⟩ | ⟨g, cap, rfl, rfl⟩
  · obtain rfl : l = [] := List.map_eq_nil_iff.1 e
    exact row_nil H'
  · rw [List.length_map]
    rw [flat_bytes] at h'
    exact row_ro (sat_get h').1

theorem laid_met (os : Os) : laidMet Tryd.prog Rows.specsTurnsRow.laid ((card.laidWorld os).forCall (fun _ _ => 0) ⟨#[], #[.slice none 0 0, .int .u32 0], []⟩).memory :=
  laidMet_of_run' 8 (by kernel_rfl) (by kernel_rfl)
theorem reads (os : Os) {H : Type} (enc : TypeId × Value → H) : ∃ ds places, DataW.whole enc Tryd.prog ((card.laidWorld os).forCall (fun _ _ => 0) ⟨#[], #[.slice none 0 0, .int .u32 0], []⟩).memory Tryd.f3.params.toList Rows.specsTurnsSpec.vars false #[Value.slice none 0 0, Value.int .u32 0].toList 8 = some (ds, [], places) :=
  ⟨[.nil, .lit (.int .u32 0)], [], by kernel_rfl⟩
theorem contract (H : Type) (enc : TypeId × Value → H) (W : World) (base : Nat) (args : Array Value) (ds gs : List (DataW H)) (before : List MemPlace)
    (hval0 : ∀ (j : Nat) t v, Tryd.f3.params[j]? = some t → args[j]? = some v → Value.okWide Tryd.prog W .any base t v)
    (hW : DataW.Whole enc Tryd.prog Tryd.f3.params.toList Rows.specsTurnsSpec.vars false W args.toList ds gs before) (hL : laidMetH Tryd.prog Rows.specsTurnsRow.laid W) :
    Calls Tryd.prog 3 args W fun e W' => ∃ v, e = .returned v ∧ Rows.specsTurnsSpec.post enc Tryd.prog Tryd.f3 false true false false W args v W' := by
  have hval : ∀ (j : Nat) t v, Tryd.f3.params[j]? = some t → args[j]? = some v → Value.okWide Tryd.prog W .any base t v := hval0
  have hW' := hW
  obtain ⟨p, q, hA0, hV, rfl, hfz, hnd⟩ := hW
  have hA : DataW.TrodAll enc Tryd.prog W 0 (fun _ => true) true Tryd.f3.params.toList args.toList ds p := hA0
  have hAk := hA
  rw [Tryd.params3] at hA hval
  obtain ⟨v0, vs0, d0, ds0, p0, q0, hargs, rfl, rfl, h0, r0⟩ := trodAll_cons hA
  obtain ⟨v1, vs1, d1, ds1, p1, q1, rfl, rfl, rfl, h1, r1⟩ := trodAll_cons r0
  obtain ⟨rfl, rfl, rfl⟩ := trodAll_nil r1
  obtain rfl : args = #[v0, v1] := by cases args; simp_all
  obtain ⟨rfl, rfl⟩ := trodVars_none hV
  have hlt : ∀ x ∈ p0 ++ (p1 ++ []), x.block < W.heap.size := fun x hx => hW'.lt x (by simpa using hx)
  obtain ⟨a, rfl, ed1, ep1, w1⟩ := open_int Tryd.underlying24 (hval 1 24 v1 rfl rfl) h1
  refine (walk (a := a) hL (hval 0 _ v0 rfl rfl) h0).mono fun e W' ⟨he, hg⟩ => ?_
  subst he
  exact ⟨_, rfl, post_of_same (pv := []) hW' (fun _ _ _ => (trodAll_cons_mk (shut_bool Tryd.underlying4 _) trodAll_mk0)) (fun sp hsp => again card.kids card.full hg (by rw [Tryd.params3]; decide) hAk (fun x hx => hsp x (by simpa using hx)) hlt) (fun _ _ => rfl) (by simp)
    (hg.frame _) hg.2.1 (ok_one (by kernel_rfl) rfl (okWide_bool_mk Tryd.underlying4 _))⟩

set_option maxRecDepth 100000 in
theorem lifted (os : Os) (started : os.Started) (H : Type) (enc : TypeId × Value → H) (F : Stop.Interp) :
    ReturnsInHanded {} Tryd.checked os 3 .any ((OpenSpec.ofChange Rows.specsTurnsSpec).preRow enc Tryd.prog Tryd.f3 Rows.specsTurnsRow.domain false Rows.specsTurnsRow.laid) (((OpenSpec.ofChange Rows.specsTurnsSpec).at F).post enc Tryd.prog Tryd.f3 false true false false) := by
  obtain ⟨ds, places, hx⟩ := reads os enc
  refine returnsInHanded_of_row (C := Tryd.checked) (s := OpenSpec.ofChange Rows.specsTurnsSpec) card.own started (by kernel_rfl) Tryd.func3
    (witness_row_at (enc := enc) (C := Tryd.checked) false (card.laidWorld os) #[.slice none 0 0, .int .u32 0] rfl (by kernel_rfl) (by kernel_rfl) (by kernel_rfl)
      (OpenSpec.preRow_of_cond 8 hx (by kernel_rfl) (fun k hk => by cases hk) (by kernel_rfl) (laid_met os))) ?_
  intro W base args ds gs before hval hW _ _ _ hL _ _
  exact contract H enc W base args ds gs before hval hW hL
theorem said : Rows.SpecsTurnsSaid :=
  OpenClaim.holds_of_cond 3 Tryd.f3 rfl rfl rfl rfl rfl rfl rfl ⟨rfl, rfl, rfl, rfl, rfl⟩ rfl rfl rfl rfl rfl (by kernel_rfl) Tryd.func3 (by kernel_rfl)
    (of_decide_eq_true (by kernel_rfl)) (by unfold Func.isWrapper; first | (rw [if_pos (by decide +kernel)]; kernel_rfl) | (rw [if_neg (by decide +kernel)]; exact ⟨rfl, rfl⟩))
    (fun os started H enc _ F => by rw [OpenClaim.pre_eq_preRow]; exact lifted os started H enc F)
theorem plain (f : FuncId) (fn : Func) (hf : Tryd.pinned.checked.prog.funcNamed "layby/laybylaw37.SpecsTurns" = some f) (hfn : Tryd.pinned.checked.prog.funcs[f]? = some fn) :
    false = Tryd.pinned.checked.prog.looks [] ∧ ∀ (j : Nat) t, fn.params[j]? = some t → Tryd.pinned.checked.prog.wantsStandIn t = false := by
  obtain rfl : f = 3 := Option.some.inj ((show Tryd.prog.funcNamed "layby/laybylaw37.SpecsTurns" = some 3 by kernel_rfl).symm.trans hf) |>.symm
  obtain rfl : fn = Tryd.f3 := (Option.some.inj (Tryd.func3.symm.trans hfn)).symm
  refine ⟨by kernel_rfl, fun j t ht => ?_⟩
  rw [Tryd.params3] at ht
  have ht2 := Array.mem_of_getElem? ht
  simp only [List.mem_toArray, List.mem_cons, List.not_mem_nil, or_false] at ht2
  rcases ht2 with rfl | rfl
  · exact (show Tryd.prog.wantsStandIn Ty.s_uint8 = false by kernel_rfl)
  · exact (show Tryd.prog.wantsStandIn Ty.api_Addr = false by kernel_rfl)
/-- The statement. -/
theorem proved : Rows.SpecsTurnsCardSaid :=
  Claim7.holds_tied_plain_at .later [] _ _ _ _ said (fun _ h => by cases h) (by kernel_rfl) (fun _ h => by cases h) specsTurns_row_tie rfl ⟨rfl, rfl⟩ (by kernel_rfl) rfl plain (by kernel_rfl)
#print axioms proved
end Go.Proofs.YtiolnpeniklhiaaDoor.specsTurns
