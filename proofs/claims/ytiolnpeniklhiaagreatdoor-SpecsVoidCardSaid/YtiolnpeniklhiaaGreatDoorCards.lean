/-
  DERIVED. GIVEN WITH THE SEED: THE CARDS: each row of YtiolnpeniklhiaaGreatDoorRows.lean that lists a variable, with what it lists TIED to the program's text (the seventh form; the later family's looks); each row that meets fmt, with fmt's text TOLD by the authors' own Lean function (tested against real Go, not proved from fmt's source: count such statements apart). THE CARD IS WHAT COUNTS. Prove the row's statement (the work); the ties are given (YtiolnpeniklhiaaGreatDoorTie.lean); close each card by the builder's one call (the guide's Derived/Test/ToyasCard.lean, 'card_holds'). Laid BY PROGRAM, IN A SANDBOX (cutbox-door.mjs). By AI agents, Wed Nov 11 2026. No macro, syntax, notation, axiom, sorry.
-/
import Derived.Test.YtiolnpeniklhiaaGreatDoorRows
import GoSem.ClaimSeven
namespace Go.Proofs.YtiolnpeniklhiaaGreatDoor
namespace Rows

/-- THE TIED CARD OF 'laybylaw37.SpecsPlay'. -/
def specsPlayCard : Claim7 := { stood := { row := specsPlayRow, standIns := [], harness := (true, "eb187f69cb28e447523eb46e024d5c29f2a252a57ac933c12b17b3496ec674d1"), looks := false }, kinds := [], alts := [], laidByText := true, laidKinds := [.data], laidTests := true, laidLooks := .later }
def SpecsPlayCardSaid : Prop := Claim7.holds Tryz.pinned (.plain (OpenSpec.ofChange specsPlaySpec)) specsPlayCard

/-- THE TIED CARD OF 'laybylaw37.SpecsVoid'. -/
def specsVoidCard : Claim7 := { stood := { row := specsVoidRow, standIns := [], harness := (true, "eb187f69cb28e447523eb46e024d5c29f2a252a57ac933c12b17b3496ec674d1"), looks := false }, kinds := [], alts := [], laidByText := true, laidKinds := [.data], laidTests := true, laidLooks := .later }
def SpecsVoidCardSaid : Prop := Claim7.holds Tryz.pinned (.plain (OpenSpec.ofChange specsVoidSpec)) specsVoidCard

/-- THE SECOND FORM's CARD OF 'laybylaw37.SpecsPlay'. -/
def specsPlayUptoCard : Claim7 := { stood := { row := specsPlayUptoRow, standIns := [], harness := (true, "eb187f69cb28e447523eb46e024d5c29f2a252a57ac933c12b17b3496ec674d1"), looks := false }, kinds := [], alts := [], laidByText := true, laidKinds := [.data], laidTests := true, laidLooks := .later }
def SpecsPlayUptoCardSaid : Prop := Claim7.holds Tryz.pinned (.plain (OpenSpec.upto specsPlaySpec)) specsPlayUptoCard

/-- THE SECOND FORM's CARD OF 'laybylaw37.SpecsVoid'. -/
def specsVoidUptoCard : Claim7 := { stood := { row := specsVoidUptoRow, standIns := [], harness := (true, "eb187f69cb28e447523eb46e024d5c29f2a252a57ac933c12b17b3496ec674d1"), looks := false }, kinds := [], alts := [], laidByText := true, laidKinds := [.data], laidTests := true, laidLooks := .later }
def SpecsVoidUptoCardSaid : Prop := Claim7.holds Tryz.pinned (.plain (OpenSpec.upto specsVoidSpec)) specsVoidUptoCard
end Rows
end Go.Proofs.YtiolnpeniklhiaaGreatDoor
