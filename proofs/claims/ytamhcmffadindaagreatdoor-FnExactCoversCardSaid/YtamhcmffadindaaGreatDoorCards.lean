/-
  DERIVED. GIVEN WITH THE SEED: THE CARDS: each row of YtamhcmffadindaaGreatDoorRows.lean that lists a variable, with what it lists TIED to the program's text (the seventh form; the later family's looks); each row that meets fmt, with fmt's text TOLD by the authors' own Lean function (tested against real Go, not proved from fmt's source: count such statements apart). THE CARD IS WHAT COUNTS. Prove the row's statement (the work); the ties are given (YtamhcmffadindaaGreatDoorTie.lean); close each card by the builder's one call (the guide's Derived/Test/ToyasCard.lean, 'card_holds'). Laid BY PROGRAM, IN A SANDBOX (cutbox-door.mjs). By AI agents, Wed Nov 11 2026. No macro, syntax, notation, axiom, sorry.
-/
import Derived.Test.YtamhcmffadindaaGreatDoorRows
import GoSem.ClaimSeven
namespace Go.Proofs.YtamhcmffadindaaGreatDoor
namespace Rows

/-- THE TIED CARD OF 'laws.FnExactCovers'. -/
def fnExactCoversCard : Claim7 := { stood := { row := fnExactCoversRow, standIns := [], harness := (true, "137568260835be732db668c3b8169b8b682d8b2ceda19cf27d820bc9e190df51"), looks := false }, kinds := [], alts := [], laidByText := true, laidKinds := [.listed, .data], laidTests := true, laidLooks := .later }
def FnExactCoversCardSaid : Prop := Claim7.holds Tryz.pinned (.plain (OpenSpec.ofChange fnExactCoversSpec)) fnExactCoversCard

/-- THE SECOND FORM's CARD OF 'laws.FnExactCovers'. -/
def fnExactCoversUptoCard : Claim7 := { stood := { row := fnExactCoversUptoRow, standIns := [], harness := (true, "137568260835be732db668c3b8169b8b682d8b2ceda19cf27d820bc9e190df51"), looks := false }, kinds := [], alts := [], laidByText := true, laidKinds := [.listed, .data], laidTests := true, laidLooks := .later }
def FnExactCoversUptoCardSaid : Prop := Claim7.holds Tryz.pinned (.plain (OpenSpec.upto fnExactCoversSpec)) fnExactCoversUptoCard
end Rows
end Go.Proofs.YtamhcmffadindaaGreatDoor
