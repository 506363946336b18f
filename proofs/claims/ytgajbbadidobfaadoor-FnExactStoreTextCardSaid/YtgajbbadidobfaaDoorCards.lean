/-
  DERIVED. GIVEN WITH THE SEED: THE CARDS: each row of YtgajbbadidobfaaDoorRows.lean that lists a variable, with what it lists TIED to the program's text (the seventh form; the later family's looks); each row that meets fmt, with fmt's text TOLD by the authors' own Lean function (tested against real Go, not proved from fmt's source: count such statements apart). THE CARD IS WHAT COUNTS. Prove the row's statement (the work); the ties are given (YtgajbbadidobfaaDoorTie.lean); close each card by the builder's one call (the guide's Derived/Test/ToyasCard.lean, 'card_holds'). Laid BY PROGRAM, IN A SANDBOX (cutbox-door.mjs). By AI agents, Wed Nov 11 2026. No macro, syntax, notation, axiom, sorry.
-/
import Derived.Test.YtgajbbadidobfaaDoorRows
import GoSem.ClaimSeven
namespace Go.Proofs.YtgajbbadidobfaaDoor
namespace Rows

/-- THE TIED CARD OF 'laws.FnExactAlarmText'. -/
def fnExactAlarmTextCard : Claim7 := { stood := { row := fnExactAlarmTextRow, standIns := [], harness := (true, "20574d79b9b72839e03ee082702a9b7b7b02df5bd4fe0b8f956295cfb7600114"), looks := true }, kinds := [], alts := [], laidByText := true, laidKinds := [.data, .data, .data], laidTests := true, laidLooks := .later }
def FnExactAlarmTextCardSaid : Prop := Claim7.holds Tryd.pinned (.plain (OpenSpec.ofChange fnExactAlarmTextSpec)) fnExactAlarmTextCard

/-- THE TIED CARD OF 'laws.FnExactReadAlarm'. -/
def fnExactReadAlarmCard : Claim7 := { stood := { row := fnExactReadAlarmRow, standIns := [], harness := (true, "20574d79b9b72839e03ee082702a9b7b7b02df5bd4fe0b8f956295cfb7600114"), looks := true }, kinds := [], alts := [], laidByText := true, laidKinds := [.data, .data, .data, .sentinel, .sentinel], laidTests := true, laidLooks := .later }
def FnExactReadAlarmCardSaid : Prop := Claim7.holds Tryd.pinned (.plain (OpenSpec.ofChange fnExactReadAlarmSpec)) fnExactReadAlarmCard

/-- THE TIED CARD OF 'laws.FnAlarmTexts'. -/
def fnAlarmTextsCard : Claim7 := { stood := { row := fnAlarmTextsRow, standIns := [], harness := (true, "20574d79b9b72839e03ee082702a9b7b7b02df5bd4fe0b8f956295cfb7600114"), looks := true }, kinds := [], alts := [], laidByText := true, laidKinds := [.data, .data, .data, .sentinel, .sentinel], laidTests := true, laidLooks := .later }
def FnAlarmTextsCardSaid : Prop := Claim7.holds Tryd.pinned (.plain (OpenSpec.ofChange fnAlarmTextsSpec)) fnAlarmTextsCard

/-- THE TIED CARD OF 'laws.FnExactEnvText'. -/
def fnExactEnvTextCard : Claim7 := { stood := { row := fnExactEnvTextRow, standIns := [], harness := (true, "20574d79b9b72839e03ee082702a9b7b7b02df5bd4fe0b8f956295cfb7600114"), looks := true }, kinds := [], alts := [], laidByText := true, laidKinds := [.data, .data, .data, .listed, .data], laidTests := true, laidLooks := .later }
def FnExactEnvTextCardSaid : Prop := Claim7.holds Tryd.pinned (.plain (OpenSpec.ofChange fnExactEnvTextSpec)) fnExactEnvTextCard

/-- THE TIED CARD OF 'laws.FnExactStoreText'. -/
def fnExactStoreTextCard : Claim7 := { stood := { row := fnExactStoreTextRow, standIns := [], harness := (true, "20574d79b9b72839e03ee082702a9b7b7b02df5bd4fe0b8f956295cfb7600114"), looks := true }, kinds := [], alts := [], laidByText := true, laidKinds := [.data, .data, .data, .listed, .data], laidTests := true, laidLooks := .later }
def FnExactStoreTextCardSaid : Prop := Claim7.holds Tryd.pinned (.plain (OpenSpec.ofChange fnExactStoreTextSpec)) fnExactStoreTextCard

/-- THE SECOND FORM's CARD OF 'laws.FnExactAlarmText'. -/
def fnExactAlarmTextUptoCard : Claim7 := { stood := { row := fnExactAlarmTextUptoRow, standIns := [], harness := (true, "20574d79b9b72839e03ee082702a9b7b7b02df5bd4fe0b8f956295cfb7600114"), looks := true }, kinds := [], alts := [], laidByText := true, laidKinds := [.data, .data, .data], laidTests := true, laidLooks := .later }
def FnExactAlarmTextUptoCardSaid : Prop := Claim7.holds Tryd.pinned (.plain (OpenSpec.upto fnExactAlarmTextSpec)) fnExactAlarmTextUptoCard

/-- THE SECOND FORM's CARD OF 'laws.FnExactReadAlarm'. -/
def fnExactReadAlarmUptoCard : Claim7 := { stood := { row := fnExactReadAlarmUptoRow, standIns := [], harness := (true, "20574d79b9b72839e03ee082702a9b7b7b02df5bd4fe0b8f956295cfb7600114"), looks := true }, kinds := [], alts := [], laidByText := true, laidKinds := [.data, .data, .data, .sentinel, .sentinel], laidTests := true, laidLooks := .later }
def FnExactReadAlarmUptoCardSaid : Prop := Claim7.holds Tryd.pinned (.plain (OpenSpec.upto fnExactReadAlarmSpec)) fnExactReadAlarmUptoCard

/-- THE SECOND FORM's CARD OF 'laws.FnAlarmTexts'. -/
def fnAlarmTextsUptoCard : Claim7 := { stood := { row := fnAlarmTextsUptoRow, standIns := [], harness := (true, "20574d79b9b72839e03ee082702a9b7b7b02df5bd4fe0b8f956295cfb7600114"), looks := true }, kinds := [], alts := [], laidByText := true, laidKinds := [.data, .data, .data, .sentinel, .sentinel], laidTests := true, laidLooks := .later }
def FnAlarmTextsUptoCardSaid : Prop := Claim7.holds Tryd.pinned (.plain (OpenSpec.upto fnAlarmTextsSpec)) fnAlarmTextsUptoCard

/-- THE SECOND FORM's CARD OF 'laws.FnExactEnvText'. -/
def fnExactEnvTextUptoCard : Claim7 := { stood := { row := fnExactEnvTextUptoRow, standIns := [], harness := (true, "20574d79b9b72839e03ee082702a9b7b7b02df5bd4fe0b8f956295cfb7600114"), looks := true }, kinds := [], alts := [], laidByText := true, laidKinds := [.data, .data, .data, .listed, .data], laidTests := true, laidLooks := .later }
def FnExactEnvTextUptoCardSaid : Prop := Claim7.holds Tryd.pinned (.plain (OpenSpec.upto fnExactEnvTextSpec)) fnExactEnvTextUptoCard

/-- THE SECOND FORM's CARD OF 'laws.FnExactStoreText'. -/
def fnExactStoreTextUptoCard : Claim7 := { stood := { row := fnExactStoreTextUptoRow, standIns := [], harness := (true, "20574d79b9b72839e03ee082702a9b7b7b02df5bd4fe0b8f956295cfb7600114"), looks := true }, kinds := [], alts := [], laidByText := true, laidKinds := [.data, .data, .data, .listed, .data], laidTests := true, laidLooks := .later }
def FnExactStoreTextUptoCardSaid : Prop := Claim7.holds Tryd.pinned (.plain (OpenSpec.upto fnExactStoreTextSpec)) fnExactStoreTextUptoCard
end Rows
end Go.Proofs.YtgajbbadidobfaaDoor
