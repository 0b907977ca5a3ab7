/-
  DERIVED. GIVEN WITH THE SEED: THE CARDS: each row of YtiolnpeniklhiaaDoorRows.lean that lists a variable, with what it lists TIED to the program's text (the seventh form; the later family's looks); each row that meets fmt, with fmt's text TOLD by the authors' own Lean function (tested against real Go, not proved from fmt's source: count such statements apart). THE CARD IS WHAT COUNTS. Prove the row's statement (the work); the ties are given (YtiolnpeniklhiaaDoorTie.lean); close each card by the builder's one call (the guide's Derived/Test/ToyasCard.lean, 'card_holds'). Laid BY PROGRAM, IN A SANDBOX (cutbox-door.mjs). By AI agents, Wed Nov 11 2026. No macro, syntax, notation, axiom, sorry.
-/
import Derived.Test.YtiolnpeniklhiaaDoorRows
import GoSem.ClaimSeven
namespace Go.Proofs.YtiolnpeniklhiaaDoor
namespace Rows

/-- THE TIED CARD OF 'laybylaw37.SpecsTurns'. -/
def specsTurnsCard : Claim7 := { stood := { row := specsTurnsRow, standIns := [], harness := (true, "af60ef697d0f9f79af409eeff2564935d2bfeac8df6e871eb68cd8ca96f6ae15"), looks := false }, kinds := [], alts := [], laidByText := true, laidKinds := [.data], laidTests := true, laidLooks := .later }
def SpecsTurnsCardSaid : Prop := Claim7.holds Tryd.pinned (.plain (OpenSpec.ofChange specsTurnsSpec)) specsTurnsCard

/-- THE TIED CARD OF 'laybylaw37.SpecsSafe'. -/
def specsSafeCard : Claim7 := { stood := { row := specsSafeRow, standIns := [], harness := (true, "af60ef697d0f9f79af409eeff2564935d2bfeac8df6e871eb68cd8ca96f6ae15"), looks := false }, kinds := [], alts := [], laidByText := true, laidKinds := [.data], laidTests := true, laidLooks := .later }
def SpecsSafeCardSaid : Prop := Claim7.holds Tryd.pinned (.plain (OpenSpec.ofChange specsSafeSpec)) specsSafeCard

/-- THE SECOND FORM's CARD OF 'laybylaw37.SpecsTurns'. -/
def specsTurnsUptoCard : Claim7 := { stood := { row := specsTurnsUptoRow, standIns := [], harness := (true, "af60ef697d0f9f79af409eeff2564935d2bfeac8df6e871eb68cd8ca96f6ae15"), looks := false }, kinds := [], alts := [], laidByText := true, laidKinds := [.data], laidTests := true, laidLooks := .later }
def SpecsTurnsUptoCardSaid : Prop := Claim7.holds Tryd.pinned (.plain (OpenSpec.upto specsTurnsSpec)) specsTurnsUptoCard

/-- THE SECOND FORM's CARD OF 'laybylaw37.SpecsSafe'. -/
def specsSafeUptoCard : Claim7 := { stood := { row := specsSafeUptoRow, standIns := [], harness := (true, "af60ef697d0f9f79af409eeff2564935d2bfeac8df6e871eb68cd8ca96f6ae15"), looks := false }, kinds := [], alts := [], laidByText := true, laidKinds := [.data], laidTests := true, laidLooks := .later }
def SpecsSafeUptoCardSaid : Prop := Claim7.holds Tryd.pinned (.plain (OpenSpec.upto specsSafeSpec)) specsSafeUptoCard
end Rows
end Go.Proofs.YtiolnpeniklhiaaDoor
