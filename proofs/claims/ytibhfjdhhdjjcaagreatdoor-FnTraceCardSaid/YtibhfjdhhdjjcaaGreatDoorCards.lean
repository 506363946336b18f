/-
  DERIVED. GIVEN WITH THE SEED: THE CARDS: each row of YtibhfjdhhdjjcaaGreatDoorRows.lean that lists a variable, with what it lists TIED to the program's text (the seventh form; the later family's looks); each row that meets fmt, with fmt's text TOLD by the authors' own Lean function (tested against real Go, not proved from fmt's source: count such statements apart). THE CARD IS WHAT COUNTS. Prove the row's statement (the work); the ties are given (YtibhfjdhhdjjcaaGreatDoorTie.lean); close each card by the builder's one call (the guide's Derived/Test/ToyasCard.lean, 'card_holds'). Laid BY PROGRAM, IN A SANDBOX (cutbox-door.mjs). By AI agents, Wed Nov 11 2026. No macro, syntax, notation, axiom, sorry.
-/
import Derived.Test.YtibhfjdhhdjjcaaGreatDoorRows
import GoSem.ClaimSeven
namespace Go.Proofs.YtibhfjdhhdjjcaaGreatDoor
namespace Rows

/-- THE TIED CARD OF 'laws.FnExactRun'. -/
def fnExactRunCard : Claim7 := { stood := { row := fnExactRunRow, standIns := [], harness := (true, "dbb31410f9ebce938de312771e6c69db2e20921dc064708cf659371bce722d5e"), looks := false }, kinds := [], alts := [], laidByText := true, laidKinds := [.listed, .data], laidTests := true, laidLooks := .later }
def FnExactRunCardSaid : Prop := Claim7.holds Tryz.pinned (.plain (OpenSpec.ofChange fnExactRunSpec)) fnExactRunCard

/-- THE TIED CARD OF 'laws.FnTrace'. -/
def fnTraceCard : Claim7 := { stood := { row := fnTraceRow, standIns := [], harness := (true, "dbb31410f9ebce938de312771e6c69db2e20921dc064708cf659371bce722d5e"), looks := false }, kinds := [], alts := [], laidByText := true, laidKinds := [.listed, .data], laidTests := true, laidLooks := .later }
def FnTraceCardSaid : Prop := Claim7.holds Tryz.pinned (.plain (OpenSpec.ofChange fnTraceSpec)) fnTraceCard

/-- THE TIED CARD OF 'laws.FnExactTrace'. -/
def fnExactTraceCard : Claim7 := { stood := { row := fnExactTraceRow, standIns := [], harness := (true, "dbb31410f9ebce938de312771e6c69db2e20921dc064708cf659371bce722d5e"), looks := false }, kinds := [], alts := [], laidByText := true, laidKinds := [.listed, .data], laidTests := true, laidLooks := .later }
def FnExactTraceCardSaid : Prop := Claim7.holds Tryz.pinned (.plain (OpenSpec.ofChange fnExactTraceSpec)) fnExactTraceCard

/-- THE SECOND FORM's CARD OF 'laws.FnExactRun'. -/
def fnExactRunUptoCard : Claim7 := { stood := { row := fnExactRunUptoRow, standIns := [], harness := (true, "dbb31410f9ebce938de312771e6c69db2e20921dc064708cf659371bce722d5e"), looks := false }, kinds := [], alts := [], laidByText := true, laidKinds := [.listed, .data], laidTests := true, laidLooks := .later }
def FnExactRunUptoCardSaid : Prop := Claim7.holds Tryz.pinned (.plain (OpenSpec.upto fnExactRunSpec)) fnExactRunUptoCard

/-- THE SECOND FORM's CARD OF 'laws.FnTrace'. -/
def fnTraceUptoCard : Claim7 := { stood := { row := fnTraceUptoRow, standIns := [], harness := (true, "dbb31410f9ebce938de312771e6c69db2e20921dc064708cf659371bce722d5e"), looks := false }, kinds := [], alts := [], laidByText := true, laidKinds := [.listed, .data], laidTests := true, laidLooks := .later }
def FnTraceUptoCardSaid : Prop := Claim7.holds Tryz.pinned (.plain (OpenSpec.upto fnTraceSpec)) fnTraceUptoCard

/-- THE SECOND FORM's CARD OF 'laws.FnExactTrace'. -/
def fnExactTraceUptoCard : Claim7 := { stood := { row := fnExactTraceUptoRow, standIns := [], harness := (true, "dbb31410f9ebce938de312771e6c69db2e20921dc064708cf659371bce722d5e"), looks := false }, kinds := [], alts := [], laidByText := true, laidKinds := [.listed, .data], laidTests := true, laidLooks := .later }
def FnExactTraceUptoCardSaid : Prop := Claim7.holds Tryz.pinned (.plain (OpenSpec.upto fnExactTraceSpec)) fnExactTraceUptoCard
end Rows
end Go.Proofs.YtibhfjdhhdjjcaaGreatDoor
