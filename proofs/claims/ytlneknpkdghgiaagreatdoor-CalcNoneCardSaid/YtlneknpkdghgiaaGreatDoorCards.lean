/-
  DERIVED. GIVEN WITH THE SEED: THE CARDS: each row of YtlneknpkdghgiaaGreatDoorRows.lean that lists a variable, with what it lists TIED to the program's text (the seventh form; the later family's looks); each row that meets fmt, with fmt's text TOLD by the authors' own Lean function (tested against real Go, not proved from fmt's source: count such statements apart). THE CARD IS WHAT COUNTS. Prove the row's statement (the work); the ties are given (YtlneknpkdghgiaaGreatDoorTie.lean); close each card by the builder's one call (the guide's Derived/Test/ToyasCard.lean, 'card_holds'). Laid BY PROGRAM, IN A SANDBOX (cutbox-door.mjs). By AI agents, Wed Nov 11 2026. No macro, syntax, notation, axiom, sorry.
-/
import Derived.Test.YtlneknpkdghgiaaGreatDoorRows
import GoSem.ClaimSeven
namespace Go.Proofs.YtlneknpkdghgiaaGreatDoor
namespace Rows

/-- THE TIED CARD OF 'apportionlaw26.CalcKnown'. -/
def calcKnownCard : Claim7 := { stood := { row := calcKnownRow, standIns := [], harness := (true, "149349fc5f0f5974e6da23dd5d6ac071bcd9094eb80b5f0e75ecf302b78c6f7b"), looks := false }, kinds := [], alts := [], laidByText := true, laidKinds := [.data, .listed, .data, .pinned], laidTests := true, laidLooks := .later }
def CalcKnownCardSaid : Prop := Claim7.holds Tryz.pinned (.plain (OpenSpec.ofChange calcKnownSpec)) calcKnownCard

/-- THE TIED CARD OF 'apportionlaw26.CalcNone'. -/
def calcNoneCard : Claim7 := { stood := { row := calcNoneRow, standIns := [], harness := (true, "149349fc5f0f5974e6da23dd5d6ac071bcd9094eb80b5f0e75ecf302b78c6f7b"), looks := false }, kinds := [], alts := [], laidByText := true, laidKinds := [.data, .listed, .data, .pinned], laidTests := true, laidLooks := .later }
def CalcNoneCardSaid : Prop := Claim7.holds Tryz.pinned (.plain (OpenSpec.ofChange calcNoneSpec)) calcNoneCard

/-- THE SECOND FORM's CARD OF 'apportionlaw26.CalcKnown'. -/
def calcKnownUptoCard : Claim7 := { stood := { row := calcKnownUptoRow, standIns := [], harness := (true, "149349fc5f0f5974e6da23dd5d6ac071bcd9094eb80b5f0e75ecf302b78c6f7b"), looks := false }, kinds := [], alts := [], laidByText := true, laidKinds := [.data, .listed, .data, .pinned], laidTests := true, laidLooks := .later }
def CalcKnownUptoCardSaid : Prop := Claim7.holds Tryz.pinned (.plain (OpenSpec.upto calcKnownSpec)) calcKnownUptoCard

/-- THE SECOND FORM's CARD OF 'apportionlaw26.CalcNone'. -/
def calcNoneUptoCard : Claim7 := { stood := { row := calcNoneUptoRow, standIns := [], harness := (true, "149349fc5f0f5974e6da23dd5d6ac071bcd9094eb80b5f0e75ecf302b78c6f7b"), looks := false }, kinds := [], alts := [], laidByText := true, laidKinds := [.data, .listed, .data, .pinned], laidTests := true, laidLooks := .later }
def CalcNoneUptoCardSaid : Prop := Claim7.holds Tryz.pinned (.plain (OpenSpec.upto calcNoneSpec)) calcNoneUptoCard
end Rows
end Go.Proofs.YtlneknpkdghgiaaGreatDoor
