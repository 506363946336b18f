/-
  DERIVED. GIVEN WITH THE SEED: THE CARDS: each row of YthjihnplkkhpmaaGreatDoorRows.lean that lists a variable, with what it lists TIED to the program's text (the seventh form; the later family's looks); each row that meets fmt, with fmt's text TOLD by the authors' own Lean function (tested against real Go, not proved from fmt's source: count such statements apart). THE CARD IS WHAT COUNTS. Prove the row's statement (the work); the ties are given (YthjihnplkkhpmaaGreatDoorTie.lean); close each card by the builder's one call (the guide's Derived/Test/ToyasCard.lean, 'card_holds'). Laid BY PROGRAM, IN A SANDBOX (cutbox-door.mjs). By AI agents, Wed Nov 11 2026. No macro, syntax, notation, axiom, sorry.
-/
import Derived.Test.YthjihnplkkhpmaaGreatDoorRows
import GoSem.ClaimSeven
namespace Go.Proofs.YthjihnplkkhpmaaGreatDoor
namespace Rows

/-- THE TIED CARD OF 'laws.FnStoreTexts'. -/
def fnStoreTextsCard : Claim7 := { stood := { row := fnStoreTextsRow, standIns := [], harness := (true, "133590fdf9adbe5d1d119ebe8557945dd5a518b9e48f3e6ca5c8506d1089d544"), looks := false }, kinds := [], alts := [], laidByText := true, laidKinds := [.data, .data, .data, .listed, .data], laidTests := true, laidLooks := .later }
def FnStoreTextsCardSaid : Prop := Claim7.holds Tryz.pinned (.plain (OpenSpec.ofChange fnStoreTextsSpec)) fnStoreTextsCard

/-- THE TIED CARD OF 'laws.FnTreeTexts'. -/
def fnTreeTextsCard : Claim7 := { stood := { row := fnTreeTextsRow, standIns := [], harness := (true, "133590fdf9adbe5d1d119ebe8557945dd5a518b9e48f3e6ca5c8506d1089d544"), looks := false }, kinds := [], alts := [], laidByText := true, laidKinds := [.data, .data, .data, .listed, .data], laidTests := true, laidLooks := .later }
def FnTreeTextsCardSaid : Prop := Claim7.holds Tryz.pinned (.plain (OpenSpec.ofChange fnTreeTextsSpec)) fnTreeTextsCard

/-- THE TIED CARD OF 'laws.FnRowTexts'. -/
def fnRowTextsCard : Claim7 := { stood := { row := fnRowTextsRow, standIns := [], harness := (true, "133590fdf9adbe5d1d119ebe8557945dd5a518b9e48f3e6ca5c8506d1089d544"), looks := false }, kinds := [], alts := [], laidByText := true, laidKinds := [.data, .data, .data, .listed, .data], laidTests := true, laidLooks := .later }
def FnRowTextsCardSaid : Prop := Claim7.holds Tryz.pinned (.plain (OpenSpec.ofChange fnRowTextsSpec)) fnRowTextsCard

/-- THE SECOND FORM's CARD OF 'laws.FnStoreTexts'. -/
def fnStoreTextsUptoCard : Claim7 := { stood := { row := fnStoreTextsUptoRow, standIns := [], harness := (true, "133590fdf9adbe5d1d119ebe8557945dd5a518b9e48f3e6ca5c8506d1089d544"), looks := false }, kinds := [], alts := [], laidByText := true, laidKinds := [.data, .data, .data, .listed, .data], laidTests := true, laidLooks := .later }
def FnStoreTextsUptoCardSaid : Prop := Claim7.holds Tryz.pinned (.plain (OpenSpec.upto fnStoreTextsSpec)) fnStoreTextsUptoCard

/-- THE SECOND FORM's CARD OF 'laws.FnTreeTexts'. -/
def fnTreeTextsUptoCard : Claim7 := { stood := { row := fnTreeTextsUptoRow, standIns := [], harness := (true, "133590fdf9adbe5d1d119ebe8557945dd5a518b9e48f3e6ca5c8506d1089d544"), looks := false }, kinds := [], alts := [], laidByText := true, laidKinds := [.data, .data, .data, .listed, .data], laidTests := true, laidLooks := .later }
def FnTreeTextsUptoCardSaid : Prop := Claim7.holds Tryz.pinned (.plain (OpenSpec.upto fnTreeTextsSpec)) fnTreeTextsUptoCard

/-- THE SECOND FORM's CARD OF 'laws.FnRowTexts'. -/
def fnRowTextsUptoCard : Claim7 := { stood := { row := fnRowTextsUptoRow, standIns := [], harness := (true, "133590fdf9adbe5d1d119ebe8557945dd5a518b9e48f3e6ca5c8506d1089d544"), looks := false }, kinds := [], alts := [], laidByText := true, laidKinds := [.data, .data, .data, .listed, .data], laidTests := true, laidLooks := .later }
def FnRowTextsUptoCardSaid : Prop := Claim7.holds Tryz.pinned (.plain (OpenSpec.upto fnRowTextsSpec)) fnRowTextsUptoCard
end Rows
end Go.Proofs.YthjihnplkkhpmaaGreatDoor
