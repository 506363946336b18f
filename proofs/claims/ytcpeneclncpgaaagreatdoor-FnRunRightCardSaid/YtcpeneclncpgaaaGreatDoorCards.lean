/-
  DERIVED. GIVEN WITH THE SEED: THE CARDS: each row of YtcpeneclncpgaaaGreatDoorRows.lean that lists a variable, with what it lists TIED to the program's text (the seventh form; the later family's looks); each row that meets fmt, with fmt's text TOLD by the authors' own Lean function (tested against real Go, not proved from fmt's source: count such statements apart). THE CARD IS WHAT COUNTS. Prove the row's statement (the work); the ties are given (YtcpeneclncpgaaaGreatDoorTie.lean); close each card by the builder's one call (the guide's Derived/Test/ToyasCard.lean, 'card_holds'). Laid BY PROGRAM, IN A SANDBOX (cutbox-door.mjs). By AI agents, Wed Nov 11 2026. No macro, syntax, notation, axiom, sorry.
-/
import Derived.Test.YtcpeneclncpgaaaGreatDoorRows
import GoSem.ClaimSeven
namespace Go.Proofs.YtcpeneclncpgaaaGreatDoor
namespace Rows

/-- THE TIED CARD OF 'laws.FnRunMore'. -/
def fnRunMoreCard : Claim7 := { stood := { row := fnRunMoreRow, standIns := [], harness := (true, "b62093c517369aa2b2fdaac8ccd8f55dc75bd312b6ecc23ba640d21dcccc82b4"), looks := false }, kinds := [], alts := [], laidByText := true, laidKinds := [.listed, .data], laidTests := true, laidLooks := .later }
def FnRunMoreCardSaid : Prop := Claim7.holds Tryz.pinned (.plain (OpenSpec.ofChange fnRunMoreSpec)) fnRunMoreCard

/-- THE TIED CARD OF 'laws.FnRunRight'. -/
def fnRunRightCard : Claim7 := { stood := { row := fnRunRightRow, standIns := [], harness := (true, "b62093c517369aa2b2fdaac8ccd8f55dc75bd312b6ecc23ba640d21dcccc82b4"), looks := false }, kinds := [], alts := [], laidByText := true, laidKinds := [.listed, .data], laidTests := true, laidLooks := .later }
def FnRunRightCardSaid : Prop := Claim7.holds Tryz.pinned (.plain (OpenSpec.ofChange fnRunRightSpec)) fnRunRightCard

/-- THE TIED CARD OF 'laws.FnErased'. -/
def fnErasedCard : Claim7 := { stood := { row := fnErasedRow, standIns := [], harness := (true, "b62093c517369aa2b2fdaac8ccd8f55dc75bd312b6ecc23ba640d21dcccc82b4"), looks := false }, kinds := [], alts := [], laidByText := true, laidKinds := [.listed, .data], laidTests := true, laidLooks := .later }
def FnErasedCardSaid : Prop := Claim7.holds Tryz.pinned (.plain (OpenSpec.ofChange fnErasedSpec)) fnErasedCard

/-- THE SECOND FORM's CARD OF 'laws.FnRunMore'. -/
def fnRunMoreUptoCard : Claim7 := { stood := { row := fnRunMoreUptoRow, standIns := [], harness := (true, "b62093c517369aa2b2fdaac8ccd8f55dc75bd312b6ecc23ba640d21dcccc82b4"), looks := false }, kinds := [], alts := [], laidByText := true, laidKinds := [.listed, .data], laidTests := true, laidLooks := .later }
def FnRunMoreUptoCardSaid : Prop := Claim7.holds Tryz.pinned (.plain (OpenSpec.upto fnRunMoreSpec)) fnRunMoreUptoCard

/-- THE SECOND FORM's CARD OF 'laws.FnRunRight'. -/
def fnRunRightUptoCard : Claim7 := { stood := { row := fnRunRightUptoRow, standIns := [], harness := (true, "b62093c517369aa2b2fdaac8ccd8f55dc75bd312b6ecc23ba640d21dcccc82b4"), looks := false }, kinds := [], alts := [], laidByText := true, laidKinds := [.listed, .data], laidTests := true, laidLooks := .later }
def FnRunRightUptoCardSaid : Prop := Claim7.holds Tryz.pinned (.plain (OpenSpec.upto fnRunRightSpec)) fnRunRightUptoCard

/-- THE SECOND FORM's CARD OF 'laws.FnErased'. -/
def fnErasedUptoCard : Claim7 := { stood := { row := fnErasedUptoRow, standIns := [], harness := (true, "b62093c517369aa2b2fdaac8ccd8f55dc75bd312b6ecc23ba640d21dcccc82b4"), looks := false }, kinds := [], alts := [], laidByText := true, laidKinds := [.listed, .data], laidTests := true, laidLooks := .later }
def FnErasedUptoCardSaid : Prop := Claim7.holds Tryz.pinned (.plain (OpenSpec.upto fnErasedSpec)) fnErasedUptoCard
end Rows
end Go.Proofs.YtcpeneclncpgaaaGreatDoor
