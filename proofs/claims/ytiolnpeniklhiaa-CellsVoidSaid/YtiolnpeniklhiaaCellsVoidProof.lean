/- The statement CellsVoid holds: for every access the law returns true, and its argument reads as it did.
   Conditions: none beyond the statement. -/
import Derived.Test.YtiolnpeniklhiaaRows
import Derived.Test.YtiolnpeniklhiaaCellsVoid
import Derived.WalkKit
import Derived.ProofKit
import Derived.OpenShut
namespace Go.Proofs.Ytiolnpeniklhiaa.cellsVoid
open Go.ChangeShapes Go.WideShapes Go.ChangeAt Go.RowKit Go.Ab
set_option linter.all false

theorem own : ownKnob Try.prog.godebug = none := by kernel_rfl
theorem kids : Kids Try.prog (· < Try.prog.types.size) := kids_rows (by kernel_rfl) (by kernel_rfl)
theorem full : ∀ t e, t < Try.prog.types.size → Try.prog.underlying t = some (.slice e) → 0 < Try.prog.cellsOf e := slices_full_of Try.prog (by kernel_rfl)
theorem act_in {r : List Value} (hr : cellsOK [.int .u8, .int .u32, .int .u64, .int .u64, .bool] r) : ∃ x : AP, r = x.row ∧ x.ok := by
  obtain ⟨v1, r1, rfl, q1, hr⟩ := cellsOK_cons hr
  obtain ⟨v2, r2, rfl, q2, hr⟩ := cellsOK_cons hr
  obtain ⟨v3, r3, rfl, q3, hr⟩ := cellsOK_cons hr
  obtain ⟨v4, r4, rfl, q4, hr⟩ := cellsOK_cons hr
  obtain ⟨v5, r5, rfl, q5, hr⟩ := cellsOK_cons hr
  obtain rfl := cellsOK_nil hr
  obtain ⟨a, rfl, w1⟩ := cellOK_int q1
  obtain ⟨b, rfl, w2⟩ := cellOK_int q2
  obtain ⟨c, rfl, w3⟩ := cellOK_int q3
  obtain ⟨d, rfl, w4⟩ := cellOK_int q4
  obtain ⟨e, rfl⟩ := cellOK_bool q5
  simp [Lit.wf, IntKind.signed, IntKind.bits, IntKind.min, IntKind.max] at w1 w2 w3 w4
  exact ⟨⟨a, b, c, d, e⟩, rfl, ⟨w1.1, by show a < 256; omega⟩, ⟨w2.1, by show b < 4294967296; omega⟩, ⟨w3.1, by show c < 18446744073709551616; omega⟩, w4.1, by show d < 18446744073709551616; omega⟩
theorem walk {W : World} {v0 : Value} {H : Type} {enc : TypeId × Value → H} {d0 : DataW H} {p0 : List MemPlace} {b0 : Nat} (hok : Value.okWide Try.prog W .any b0 Ty.laybylaw02_Act v0) (h0 : DataW.Trod enc Try.prog W 0 (fun _ => true) true Ty.laybylaw02_Act v0 d0 p0) :
    Calls Try.prog Fi.laybylaw02_CellsVoid #[v0] W fun e w' => e = .returned (.bool true) ∧ Grown W w' := by
  obtain ⟨fuel, hfu⟩ := h0
  obtain ⟨cs, rfl, -⟩ := WideShapes.okWide_struct Try.underlying36 hok
  have hf : flatF Try.prog 3 Ty.laybylaw02_Act = some [.int .u8, .int .u32, .int .u64, .int .u64, .bool] := by kernel_rfl
  have hc := flat_sound hf hfu
  obtain ⟨x, hx, hxo⟩ := act_in hc
  obtain rfl : cs = ⟨x.row⟩ := by cases cs; exact congrArg Array.mk hx
  exact (Imp.zero Try.prog W).walk (args := [.agg ⟨x.row⟩]) (.cons (.agg (CVs.of_bare rfl)) .nil) (CellsVoid_ds hxo fun _ => rfl)

set_option maxRecDepth 100000 in
theorem lifted (os : Os) (started : os.Started) (H : Type) (enc : TypeId × Value → H) :
    ReturnsInHanded {} Try.checked os 6 .any (Rows.cellsVoidSpec.pre6 enc Try.prog Try.f6 Rows.cellsVoidRow.domain false) (Rows.cellsVoidSpec.post enc Try.prog Try.f6 false true false false) := by
  refine returnsInHanded_of_change (C := Try.checked) own started (by kernel_rfl) Try.func6
    (ChangeSpec.witness6 (enc := enc) (C := Try.checked) false ⟨#[], #[.agg #[.int .u8 0, .int .u32 0, .int .u64 0, .int .u64 0, .bool false]], []⟩ 8 (by kernel_rfl) (by kernel_rfl) (by kernel_rfl) (by kernel_rfl)) ?_
  intro W base args ds gs before hval0 hW hcnd _
  have hval : ∀ (j : Nat) t v, Try.f6.params[j]? = some t → args[j]? = some v → Value.okWide Try.prog W .any base t v := hval0
  have hW' := hW
  obtain ⟨p, q, hA0, hV, rfl, hfz, hnd⟩ := hW
  have hA : DataW.TrodAll enc Try.prog W 0 (fun _ => true) true Try.f6.params.toList args.toList ds p := hA0
  have hAk := hA
  rw [Try.params6] at hA hval
  obtain ⟨v0, vs0, d0, ds0, p0, q0, hargs, rfl, rfl, h0, r0⟩ := trodAll_cons hA
  obtain ⟨rfl, rfl, rfl⟩ := trodAll_nil r0
  obtain rfl : args = #[v0] := by cases args; simp_all
  obtain ⟨rfl, rfl⟩ := trodVars_none hV
  have hlt : ∀ x ∈ p0 ++ [], x.block < W.heap.size := fun x hx => hW'.lt x (by simpa using hx)
  refine (walk (hval 0 _ v0 rfl rfl) h0).mono fun e W' ⟨he, hg⟩ => ?_
  subst he
  exact ⟨_, rfl, post_of_same (pv := []) hW' (fun _ _ _ => (trodAll_cons_mk (shut_bool Try.underlying4 _) trodAll_mk0)) (fun sp hsp => again kids full hg (by rw [Try.params6]; decide) hAk (fun x hx => hsp x (by simpa using hx)) hlt) (fun _ _ => rfl) (by simp)
    (hg.frame _) hg.2.1 (ok_one (by kernel_rfl) rfl (okWide_bool_mk Try.underlying4 _))⟩

theorem over : Rows.cellsVoidRow.holds Try.pinned (OpenSpec.ofChange Rows.cellsVoidSpec) :=
  OpenClaim.holds_of_wide 6 Try.f6 rfl rfl rfl rfl rfl rfl rfl ⟨rfl, rfl, rfl, rfl, rfl⟩ rfl rfl rfl rfl rfl (by kernel_rfl) Try.func6 (by kernel_rfl)
    (of_decide_eq_true (by kernel_rfl)) (by unfold Func.isWrapper; first | (rw [if_pos (by decide +kernel)]; kernel_rfl) | (rw [if_neg (by decide +kernel)]; exact ⟨rfl, rfl⟩))
    (fun os started H enc _ => lifted os started H enc)

/-- The statement. -/
theorem proved : Rows.CellsVoidSaid :=
  over
#print axioms proved
end Go.Proofs.Ytiolnpeniklhiaa.cellsVoid
