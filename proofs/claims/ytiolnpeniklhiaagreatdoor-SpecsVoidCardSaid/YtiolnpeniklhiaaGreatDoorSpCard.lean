/- What the rows over the table of names share: the table lies where the program lays it, and a world for the witness.
   Conditions: none. -/
import Derived.Test.YtiolnpeniklhiaaGreatDoorSpec10
import Derived.Test.YtiolnpeniklhiaaGreatDoorRows
import Derived.Test.YtiolnpeniklhiaaGreatDoorCards
import Derived.Test.YtiolnpeniklhiaaGreatDoorTie
import Derived.WalkKit
import Derived.ProofKit
import Derived.OpenShut
import Derived.Deep.DeepHandedRow
import Derived.LaidLaws
namespace Go.Proofs.YtiolnpeniklhiaaGreatDoor.card
open Go.ChangeShapes Go.WideShapes Go.ChangeAt Go.RowKit Go.Ab
set_option linter.all false

theorem own : ownKnob Tryz.prog.godebug = none := by kernel_rfl
theorem kids : Kids Tryz.prog (· < Tryz.prog.types.size) := kids_rows (by kernel_rfl) (by kernel_rfl)
theorem full : ∀ t e, t < Tryz.prog.types.size → Tryz.prog.underlying t = some (.slice e) → 0 < Tryz.prog.cellsOf e := slices_full_of Tryz.prog (by kernel_rfl)
theorem gNames : Tryz.prog.globalNamed "layby/notes.names" = some 0 := by kernel_rfl
theorem gType : (Tryz.prog.globals[0]?).map (·.type) = some 92 := by kernel_rfl
theorem cellsT : Tryz.prog.cellsOf 92 = 38 := by kernel_rfl
theorem cellsS : Tryz.prog.cellsOf Ty.string = 1 := by kernel_rfl
theorem glob0 : 0 < Tryz.prog.globals.size := of_decide_eq_true (by kernel_rfl)
theorem names_bare : namesC.all bare = true := by kernel_rfl
theorem datum : (Rows.laid_layby_notes_names : DataW Unit) = .agg (namesL.map fun s => .lit (.string s)) := rfl
theorem names {W : World} (h : laidMetH Tryz.prog [("layby/notes.names", Rows.laid_layby_notes_names)] W) : ∃ T z, W.heap[0]? = some (.cells ⟨namesC⟩ T z) := by
  have h2 : laidMet Tryz.prog (("layby/notes.names", .agg (namesL.map fun s => .lit (.string s))) :: []) W := h
  exact laid_strs gNames gType Tryz.underlying92 Tryz.underlying9 cellsS cellsT h2
/-- What a call begins with: the table of names. -/
theorem imp {W : World} (h : laidMetH Tryz.prog [("layby/notes.names", Rows.laid_layby_notes_names)] W) : ∃ H, Imp Tryz.prog W H (ren0 Tryz.prog) ∧ sat H (NM * emp) := by
  obtain ⟨T, z, hW⟩ := names h
  refine ⟨_, (Imp.zero Tryz.prog W).glob' glob0 hW names_bare, ?_⟩
  rw [sep_emp]
  refine ⟨fun m => if m = 0 then some (.cells namesC 0 .ro) else none, ⟨0, fun m => rfl⟩, fun n o e => ?_⟩
  have e : (if n = 0 then some (.cells namesC 0 .ro) else none) = some o := e
  by_cases hn : n = 0
  · rw [if_pos hn] at e; cases e
    refine ⟨by rw [AH.get_put, if_pos hn], ?_⟩
    rw [AH.nx_put]
    show n < Tryz.prog.globals.size
    rw [hn]; exact glob0
  · rw [if_neg hn] at e; cases e

/-- A world for the witness: the settled one, the table holding what its initialiser lays. -/
noncomputable def laidWorld (os : Os) : World :=
  { World.holding Tryz.prog os ⟨#[], #[], []⟩ with heap := (World.holding Tryz.prog os ⟨#[], #[], []⟩).heap.modify 0 fun
      | .cells _ t frozen => .cells ⟨namesC⟩ t frozen
      | o => o }
end Go.Proofs.YtiolnpeniklhiaaGreatDoor.card
