/-
  DERIVED. GIVEN WITH THE SEED: THE CARDS: each row of YtbidgolmhilcjaaGreatDoorRows.lean that lists a variable, with what it lists TIED to the program's text (the seventh form; the later family's looks); each row that meets fmt, with fmt's text TOLD by the authors' own Lean function (tested against real Go, not proved from fmt's source: count such statements apart). THE CARD IS WHAT COUNTS. Prove the row's statement (the work); the ties are given (YtbidgolmhilcjaaGreatDoorTie.lean); close each card by the builder's one call (the guide's Derived/Test/ToyasCard.lean, 'card_holds'). Laid BY PROGRAM, IN A SANDBOX (cutbox-door.mjs). By AI agents, Wed Nov 11 2026. No macro, syntax, notation, axiom, sorry.
-/
import Derived.Test.YtbidgolmhilcjaaGreatDoorRows
import GoSem.ClaimSeven
namespace Go.Proofs.YtbidgolmhilcjaaGreatDoor
namespace Rows

/-- THE TIED CARD OF 'apportionlaw24.ConfigParts'. -/
def configPartsCard : Claim7 := { stood := { row := configPartsRow, standIns := [], harness := (true, "dc8e419b07defb6913dfbe0d308fb58ee77c88fa89f19e022b4c82610d30c00d"), looks := false }, kinds := [], alts := [], laidByText := true, laidKinds := [.data, .listed, .data, .pinned], laidTests := true, laidLooks := .later }
def ConfigPartsCardSaid : Prop := Claim7.holds Tryz.pinned (.plain (OpenSpec.ofChange configPartsSpec)) configPartsCard

/-- THE TIED CARD OF 'apportionlaw24.ConfigLess'. -/
def configLessCard : Claim7 := { stood := { row := configLessRow, standIns := [], harness := (true, "dc8e419b07defb6913dfbe0d308fb58ee77c88fa89f19e022b4c82610d30c00d"), looks := false }, kinds := [], alts := [], laidByText := true, laidKinds := [.data, .listed, .data, .pinned], laidTests := true, laidLooks := .later }
def ConfigLessCardSaid : Prop := Claim7.holds Tryz.pinned (.plain (OpenSpec.ofChange configLessSpec)) configLessCard

/-- THE TIED CARD OF 'apportionlaw24.ConfigRates'. -/
def configRatesCard : Claim7 := { stood := { row := configRatesRow, standIns := [], harness := (true, "dc8e419b07defb6913dfbe0d308fb58ee77c88fa89f19e022b4c82610d30c00d"), looks := false }, kinds := [], alts := [], laidByText := true, laidKinds := [.data, .listed, .data, .pinned], laidTests := true, laidLooks := .later }
def ConfigRatesCardSaid : Prop := Claim7.holds Tryz.pinned (.plain (OpenSpec.ofChange configRatesSpec)) configRatesCard

/-- THE TIED CARD OF 'apportionlaw24.ConfigReads'. -/
def configReadsCard : Claim7 := { stood := { row := configReadsRow, standIns := [], harness := (true, "dc8e419b07defb6913dfbe0d308fb58ee77c88fa89f19e022b4c82610d30c00d"), looks := false }, kinds := [], alts := [], laidByText := true, laidKinds := [.data, .listed, .data, .pinned], laidTests := true, laidLooks := .later }
def ConfigReadsCardSaid : Prop := Claim7.holds Tryz.pinned (.plain (OpenSpec.ofChange configReadsSpec)) configReadsCard

/-- THE TIED CARD OF 'apportionlaw24.ConfigLong'. -/
def configLongCard : Claim7 := { stood := { row := configLongRow, standIns := [], harness := (true, "dc8e419b07defb6913dfbe0d308fb58ee77c88fa89f19e022b4c82610d30c00d"), looks := false }, kinds := [], alts := [], laidByText := true, laidKinds := [.data, .listed, .data, .pinned], laidTests := true, laidLooks := .later }
def ConfigLongCardSaid : Prop := Claim7.holds Tryz.pinned (.plain (OpenSpec.ofChange configLongSpec)) configLongCard

/-- THE TIED CARD OF 'apportionlaw24.ConfigBack'. -/
def configBackCard : Claim7 := { stood := { row := configBackRow, standIns := [], harness := (true, "dc8e419b07defb6913dfbe0d308fb58ee77c88fa89f19e022b4c82610d30c00d"), looks := false }, kinds := [], alts := [], laidByText := true, laidKinds := [.data, .listed, .data, .pinned], laidTests := true, laidLooks := .later }
def ConfigBackCardSaid : Prop := Claim7.holds Tryz.pinned (.plain (OpenSpec.ofChange configBackSpec)) configBackCard

/-- THE TIED CARD OF 'apportionlaw24.ConfigKnown'. -/
def configKnownCard : Claim7 := { stood := { row := configKnownRow, standIns := [], harness := (true, "dc8e419b07defb6913dfbe0d308fb58ee77c88fa89f19e022b4c82610d30c00d"), looks := false }, kinds := [], alts := [], laidByText := true, laidKinds := [.data, .listed, .data, .pinned], laidTests := true, laidLooks := .later }
def ConfigKnownCardSaid : Prop := Claim7.holds Tryz.pinned (.plain (OpenSpec.ofChange configKnownSpec)) configKnownCard

/-- THE TIED CARD OF 'apportionlaw24.ConfigWrites'. -/
def configWritesCard : Claim7 := { stood := { row := configWritesRow, standIns := [], harness := (true, "dc8e419b07defb6913dfbe0d308fb58ee77c88fa89f19e022b4c82610d30c00d"), looks := false }, kinds := [], alts := [], laidByText := true, laidKinds := [.data, .listed, .data, .pinned], laidTests := true, laidLooks := .later }
def ConfigWritesCardSaid : Prop := Claim7.holds Tryz.pinned (.plain (OpenSpec.ofChange configWritesSpec)) configWritesCard

/-- THE SECOND FORM's CARD OF 'apportionlaw24.ConfigParts'. -/
def configPartsUptoCard : Claim7 := { stood := { row := configPartsUptoRow, standIns := [], harness := (true, "dc8e419b07defb6913dfbe0d308fb58ee77c88fa89f19e022b4c82610d30c00d"), looks := false }, kinds := [], alts := [], laidByText := true, laidKinds := [.data, .listed, .data, .pinned], laidTests := true, laidLooks := .later }
def ConfigPartsUptoCardSaid : Prop := Claim7.holds Tryz.pinned (.plain (OpenSpec.upto configPartsSpec)) configPartsUptoCard

/-- THE SECOND FORM's CARD OF 'apportionlaw24.ConfigLess'. -/
def configLessUptoCard : Claim7 := { stood := { row := configLessUptoRow, standIns := [], harness := (true, "dc8e419b07defb6913dfbe0d308fb58ee77c88fa89f19e022b4c82610d30c00d"), looks := false }, kinds := [], alts := [], laidByText := true, laidKinds := [.data, .listed, .data, .pinned], laidTests := true, laidLooks := .later }
def ConfigLessUptoCardSaid : Prop := Claim7.holds Tryz.pinned (.plain (OpenSpec.upto configLessSpec)) configLessUptoCard

/-- THE SECOND FORM's CARD OF 'apportionlaw24.ConfigRates'. -/
def configRatesUptoCard : Claim7 := { stood := { row := configRatesUptoRow, standIns := [], harness := (true, "dc8e419b07defb6913dfbe0d308fb58ee77c88fa89f19e022b4c82610d30c00d"), looks := false }, kinds := [], alts := [], laidByText := true, laidKinds := [.data, .listed, .data, .pinned], laidTests := true, laidLooks := .later }
def ConfigRatesUptoCardSaid : Prop := Claim7.holds Tryz.pinned (.plain (OpenSpec.upto configRatesSpec)) configRatesUptoCard

/-- THE SECOND FORM's CARD OF 'apportionlaw24.ConfigReads'. -/
def configReadsUptoCard : Claim7 := { stood := { row := configReadsUptoRow, standIns := [], harness := (true, "dc8e419b07defb6913dfbe0d308fb58ee77c88fa89f19e022b4c82610d30c00d"), looks := false }, kinds := [], alts := [], laidByText := true, laidKinds := [.data, .listed, .data, .pinned], laidTests := true, laidLooks := .later }
def ConfigReadsUptoCardSaid : Prop := Claim7.holds Tryz.pinned (.plain (OpenSpec.upto configReadsSpec)) configReadsUptoCard

/-- THE SECOND FORM's CARD OF 'apportionlaw24.ConfigLong'. -/
def configLongUptoCard : Claim7 := { stood := { row := configLongUptoRow, standIns := [], harness := (true, "dc8e419b07defb6913dfbe0d308fb58ee77c88fa89f19e022b4c82610d30c00d"), looks := false }, kinds := [], alts := [], laidByText := true, laidKinds := [.data, .listed, .data, .pinned], laidTests := true, laidLooks := .later }
def ConfigLongUptoCardSaid : Prop := Claim7.holds Tryz.pinned (.plain (OpenSpec.upto configLongSpec)) configLongUptoCard

/-- THE SECOND FORM's CARD OF 'apportionlaw24.ConfigBack'. -/
def configBackUptoCard : Claim7 := { stood := { row := configBackUptoRow, standIns := [], harness := (true, "dc8e419b07defb6913dfbe0d308fb58ee77c88fa89f19e022b4c82610d30c00d"), looks := false }, kinds := [], alts := [], laidByText := true, laidKinds := [.data, .listed, .data, .pinned], laidTests := true, laidLooks := .later }
def ConfigBackUptoCardSaid : Prop := Claim7.holds Tryz.pinned (.plain (OpenSpec.upto configBackSpec)) configBackUptoCard

/-- THE SECOND FORM's CARD OF 'apportionlaw24.ConfigKnown'. -/
def configKnownUptoCard : Claim7 := { stood := { row := configKnownUptoRow, standIns := [], harness := (true, "dc8e419b07defb6913dfbe0d308fb58ee77c88fa89f19e022b4c82610d30c00d"), looks := false }, kinds := [], alts := [], laidByText := true, laidKinds := [.data, .listed, .data, .pinned], laidTests := true, laidLooks := .later }
def ConfigKnownUptoCardSaid : Prop := Claim7.holds Tryz.pinned (.plain (OpenSpec.upto configKnownSpec)) configKnownUptoCard

/-- THE SECOND FORM's CARD OF 'apportionlaw24.ConfigWrites'. -/
def configWritesUptoCard : Claim7 := { stood := { row := configWritesUptoRow, standIns := [], harness := (true, "dc8e419b07defb6913dfbe0d308fb58ee77c88fa89f19e022b4c82610d30c00d"), looks := false }, kinds := [], alts := [], laidByText := true, laidKinds := [.data, .listed, .data, .pinned], laidTests := true, laidLooks := .later }
def ConfigWritesUptoCardSaid : Prop := Claim7.holds Tryz.pinned (.plain (OpenSpec.upto configWritesSpec)) configWritesUptoCard
end Rows
end Go.Proofs.YtbidgolmhilcjaaGreatDoor
