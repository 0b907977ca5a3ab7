/- The statement CellsPlay holds: for every two lists the law returns true, and its arguments read as they did.
   Conditions: none beyond the statement. -/
import Derived.Test.YtiolnpeniklhiaaRows
import Derived.Test.YtiolnpeniklhiaaPlay2
import Derived.WalkKit
import Derived.ProofKit
import Derived.OpenShut
namespace Go.Proofs.Ytiolnpeniklhiaa.cellsPlay
open Go.ChangeShapes Go.WideShapes Go.ChangeAt Go.RowKit Go.Ab
set_option linter.all false

theorem own : ownKnob Try.prog.godebug = none := by kernel_rfl
theorem kids : Kids Try.prog (· < Try.prog.types.size) := kids_rows (by kernel_rfl) (by kernel_rfl)
theorem full : ∀ t e, t < Try.prog.types.size → Try.prog.underlying t = some (.slice e) → 0 < Try.prog.cellsOf e := slices_full_of Try.prog (by kernel_rfl)
theorem rows_acts : ∀ {rows : List (List Value)}, (∀ r ∈ rows, cellsOK [.int .u8, .int .u32, .int .u64, .int .u64, .bool] r) → ∃ l : List AP, rows = l.map AP.row ∧ ∀ x ∈ l, x.ok
  | [], _ => ⟨[], rfl, by simp⟩
  | r :: rows, h => by
    obtain ⟨l, h1, h2⟩ := rows_acts (rows := rows) (fun x hx => h x (by simp [hx]))
    have hr := h r (by simp)
    obtain ⟨v1, r1, rfl, q1, hr⟩ := cellsOK_cons hr
    obtain ⟨v2, r2, rfl, q2, hr⟩ := cellsOK_cons hr
    obtain ⟨v3, r3, rfl, q3, hr⟩ := cellsOK_cons hr
    obtain ⟨v4, r4, rfl, q4, hr⟩ := cellsOK_cons hr
    obtain ⟨v5, r5, rfl, q5, hr⟩ := cellsOK_cons hr
    obtain rfl := cellsOK_nil hr
    obtain ⟨a, rfl, w1⟩ := cellOK_int q1
    obtain ⟨b, rfl, w2⟩ := cellOK_int q2
    obtain ⟨c, rfl, w3⟩ := cellOK_int q3
    obtain ⟨d, rfl, w4⟩ := cellOK_int q4
    obtain ⟨e, rfl⟩ := cellOK_bool q5
    simp [Lit.wf, IntKind.signed, IntKind.bits, IntKind.min, IntKind.max] at w1 w2 w3 w4
    refine ⟨⟨a, b, c, d, e⟩ :: l, by rw [h1]; rfl, fun x hx => ?_⟩
    rcases List.mem_cons.1 hx with rfl | hx
    · exact ⟨⟨w1.1, by show a < 256; omega⟩, ⟨w2.1, by show b < 4294967296; omega⟩, ⟨w3.1, by show c < 18446744073709551616; omega⟩, w4.1, by show d < 18446744073709551616; omega⟩
    · exact h2 x hx
theorem rows_words : ∀ {rows : List (List Value)}, (∀ r ∈ rows, cellsOK [.int .u32, .int .u64] r) → ∃ l : WL, rows = l.map rowW ∧ ∀ x ∈ l, wordOK x
  | [], _ => ⟨[], rfl, by simp⟩
  | r :: rows, h => by
    obtain ⟨l, h1, h2⟩ := rows_words (rows := rows) (fun x hx => h x (by simp [hx]))
    have hr := h r (by simp)
    obtain ⟨v1, r1, rfl, q1, hr⟩ := cellsOK_cons hr
    obtain ⟨v2, r2, rfl, q2, hr⟩ := cellsOK_cons hr
    obtain rfl := cellsOK_nil hr
    obtain ⟨a, rfl, w1⟩ := cellOK_int q1
    obtain ⟨b, rfl, w2⟩ := cellOK_int q2
    simp [Lit.wf, IntKind.signed, IntKind.bits, IntKind.min, IntKind.max] at w1 w2
    refine ⟨(a, b) :: l, by rw [h1]; rfl, fun x hx => ?_⟩
    rcases List.mem_cons.1 hx with rfl | hx
    · exact ⟨⟨w1.1, by show a < 4294967296; omega⟩, w2.1, by show b < 18446744073709551616; omega⟩
    · exact h2 x hx
theorem row_ro {H : AH} {g cap : Nat} {L : WL} {T : TypeId} (h : H.get g = some (.cells (flatW L) T .ro)) : Row H (slc g L.length cap) L := by
  refine ⟨fun t => rfl, fun i p hp => ?_⟩
  have hi := (List.getElem?_eq_some_iff.1 hp).1
  refine ⟨g, by rw [ixS_of 2 g 0 _ _ none .i64 i hi, Nat.zero_add], ?_, ?_, ?_⟩
  · rw [h, cellO_cells]; exact flatW_get hp (j := 0) (by omega)
  · rw [h, cellO_cells]; exact flatW_get hp (by omega)
  · rw [h, cellsO_cells _ _ _ _ _ (by rw [flatW_len]; omega), flatW_cut hp]
theorem rowA_ro {H : AH} {g cap : Nat} {l : List AP} {T : TypeId} (h : H.get g = some (.cells (flatA l) T .ro)) : RowA H (slc g l.length cap) l := by
  refine ⟨fun t => rfl, fun i p hp => ?_⟩
  have hi := (List.getElem?_eq_some_iff.1 hp).1
  refine ⟨g, by rw [ixS_of 5 g 0 _ _ none .i64 i hi, Nat.zero_add], ?_, ?_⟩
  · rw [h, cellO_cells]; exact flatA_get hp (j := 1) (by omega)
  · rw [h, cellsO_cells _ _ _ _ _ (by rw [flatA_len]; omega), flatA_cut hp]
theorem row_nil (H : AH) : Row H (.slice none 0 0) [] := ⟨fun t => rfl, fun i p hp => by simp at hp⟩
theorem rowA_nil (H : AH) : RowA H (.slice none 0 0) [] := ⟨fun t => rfl, fun i p hp => by simp at hp⟩
theorem walk {W : World} {v0 v1 : Value} {H : Type} {enc : TypeId × Value → H} {d0 d1 : DataW H} {p0 p1 : List MemPlace} {b0 : Nat} (hok0 : Value.okWide Try.prog W .any b0 Ty.s_cells_Word v0) (hok1 : Value.okWide Try.prog W .any b0 Ty.s_laybylaw02_Act v1)
    (h0 : DataW.Trod enc Try.prog W 0 (fun _ => true) true Ty.s_cells_Word v0 d0 p0) (h1 : DataW.Trod enc Try.prog W 0 (fun _ => true) true Ty.s_laybylaw02_Act v1 d1 p1) :
    Calls Try.prog Fi.laybylaw02_CellsPlay #[v0, v1] W fun e w' => e = .returned (.bool true) ∧ Grown W w' := by
  obtain ⟨H1, ρ1, a1, rows1, B1, i1, le1, c1, k1, s1, o1⟩ := (Imp.zero Try.prog W).slice Ty.cells_Word (slice_in (e := Ty.cells_Word) (ds := [.int .u32, .int .u64]) (by kernel_rfl) 3 (by kernel_rfl) (by kernel_rfl) hok0 h0)
  obtain ⟨H2, ρ2, a2, rows2, B2, i2, le2, c2, k2, s2, o2⟩ := i1.slice Ty.laybylaw02_Act (slice_in (e := Ty.laybylaw02_Act) (ds := [.int .u8, .int .u32, .int .u64, .int .u64, .bool]) (by kernel_rfl) 3 (by kernel_rfl) (by kernel_rfl) hok1 h1)
  obtain ⟨l1, rfl, hl1⟩ := rows_words k1
  obtain ⟨l2, rfl, hl2⟩ := rows_acts k2
  refine i2.walk (args := [a1, a2]) (.cons (c1.mono le2) (.cons c2 .nil)) (CellsPlay_ds (A := B2 * (B1 * emp)) (l1 := l1) (l2 := l2) (fun H' h' => ?_) (fun H' h' => ?_) hl1 hl2 (s2 _ (s1 _ (sat_emp' _))) fun _ => rfl)
  · rcases o1 with ⟨rfl, e, rfl⟩ | ⟨g, cap, rfl, rfl⟩
    · obtain rfl : l1 = [] := List.map_eq_nil_iff.1 e
      exact row_nil H'
    · rw [List.length_map]
      exact row_ro (sat_get (sat_sub h')).1
  · rcases o2 with ⟨rfl, e, rfl⟩ | ⟨g, cap, rfl, rfl⟩
    · obtain rfl : l2 = [] := List.map_eq_nil_iff.1 e
      exact rowA_nil H'
    · rw [List.length_map]
      exact rowA_ro (sat_get h').1

set_option maxRecDepth 100000 in
theorem lifted (os : Os) (started : os.Started) (H : Type) (enc : TypeId × Value → H) :
    ReturnsInHanded {} Try.checked os 5 .any (Rows.cellsPlaySpec.pre6 enc Try.prog Try.f5 Rows.cellsPlayRow.domain false) (Rows.cellsPlaySpec.post enc Try.prog Try.f5 false true false false) := by
  refine returnsInHanded_of_change (C := Try.checked) own started (by kernel_rfl) Try.func5
    (ChangeSpec.witness6 (enc := enc) (C := Try.checked) false ⟨#[], #[.slice none 0 0, .slice none 0 0], []⟩ 8 (by kernel_rfl) (by kernel_rfl) (by kernel_rfl) (by kernel_rfl)) ?_
  intro W base args ds gs before hval0 hW hcnd _
  have hval : ∀ (j : Nat) t v, Try.f5.params[j]? = some t → args[j]? = some v → Value.okWide Try.prog W .any base t v := hval0
  have hW' := hW
  obtain ⟨p, q, hA0, hV, rfl, hfz, hnd⟩ := hW
  have hA : DataW.TrodAll enc Try.prog W 0 (fun _ => true) true Try.f5.params.toList args.toList ds p := hA0
  have hAk := hA
  rw [Try.params5] at hA hval
  obtain ⟨v0, vs0, d0, ds0, p0, q0, hargs, rfl, rfl, h0, r0⟩ := trodAll_cons hA
  obtain ⟨v1, vs1, d1, ds1, p1, q1, rfl, rfl, rfl, h1, r1⟩ := trodAll_cons r0
  obtain ⟨rfl, rfl, rfl⟩ := trodAll_nil r1
  obtain rfl : args = #[v0, v1] := by cases args; simp_all
  obtain ⟨rfl, rfl⟩ := trodVars_none hV
  have hlt : ∀ x ∈ p0 ++ (p1 ++ []), x.block < W.heap.size := fun x hx => hW'.lt x (by simpa using hx)
  refine (walk (hval 0 _ v0 rfl rfl) (hval 1 _ v1 rfl rfl) h0 h1).mono fun e W' ⟨he, hg⟩ => ?_
  subst he
  exact ⟨_, rfl, post_of_same (pv := []) hW' (fun _ _ _ => (trodAll_cons_mk (shut_bool Try.underlying4 _) trodAll_mk0)) (fun sp hsp => again kids full hg (by rw [Try.params5]; decide) hAk (fun x hx => hsp x (by simpa using hx)) hlt) (fun _ _ => rfl) (by simp)
    (hg.frame _) hg.2.1 (ok_one (by kernel_rfl) rfl (okWide_bool_mk Try.underlying4 _))⟩

theorem over : Rows.cellsPlayRow.holds Try.pinned (OpenSpec.ofChange Rows.cellsPlaySpec) :=
  OpenClaim.holds_of_wide 5 Try.f5 rfl rfl rfl rfl rfl rfl rfl ⟨rfl, rfl, rfl, rfl, rfl⟩ rfl rfl rfl rfl rfl (by kernel_rfl) Try.func5 (by kernel_rfl)
    (of_decide_eq_true (by kernel_rfl)) (by unfold Func.isWrapper; first | (rw [if_pos (by decide +kernel)]; kernel_rfl) | (rw [if_neg (by decide +kernel)]; exact ⟨rfl, rfl⟩))
    (fun os started H enc _ => lifted os started H enc)

/-- The statement. -/
theorem proved : Rows.CellsPlaySaid :=
  over
#print axioms proved
end Go.Proofs.Ytiolnpeniklhiaa.cellsPlay
