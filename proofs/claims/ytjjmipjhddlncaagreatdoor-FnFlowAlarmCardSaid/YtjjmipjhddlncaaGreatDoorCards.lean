/-
  DERIVED. GIVEN WITH THE SEED: THE CARDS: each row of YtjjmipjhddlncaaGreatDoorRows.lean that lists a variable, with what it lists TIED to the program's text (the seventh form; the later family's looks); each row that meets fmt, with fmt's text TOLD by the authors' own Lean function (tested against real Go, not proved from fmt's source: count such statements apart). THE CARD IS WHAT COUNTS. Prove the row's statement (the work); the ties are given (YtjjmipjhddlncaaGreatDoorTie.lean); close each card by the builder's one call (the guide's Derived/Test/ToyasCard.lean, 'card_holds'). Laid BY PROGRAM, IN A SANDBOX (cutbox-door.mjs). By AI agents, Wed Nov 11 2026. No macro, syntax, notation, axiom, sorry.
-/
import Derived.Test.YtjjmipjhddlncaaGreatDoorRows
import GoSem.ClaimSeven
namespace Go.Proofs.YtjjmipjhddlncaaGreatDoor
namespace Rows

/-- THE TIED CARD OF 'laws.FnFlowAlarm'. -/
def fnFlowAlarmCard : Claim7 := { stood := { row := fnFlowAlarmRow, standIns := [], harness := (true, "a00fd0112d39b832c1aeb4cc39b2ccba2584884c09470c0818d4a2667a7121ea"), looks := false }, kinds := [], alts := [], laidByText := true, laidKinds := [.listed, .data], laidTests := true, laidLooks := .later }
def FnFlowAlarmCardSaid : Prop := Claim7.holds Tryz.pinned (.plain (OpenSpec.ofChange fnFlowAlarmSpec)) fnFlowAlarmCard

/-- THE TIED CARD OF 'laws.FnFlowRight'. -/
def fnFlowRightCard : Claim7 := { stood := { row := fnFlowRightRow, standIns := [], harness := (true, "a00fd0112d39b832c1aeb4cc39b2ccba2584884c09470c0818d4a2667a7121ea"), looks := false }, kinds := [], alts := [], laidByText := true, laidKinds := [.listed, .data], laidTests := true, laidLooks := .later }
def FnFlowRightCardSaid : Prop := Claim7.holds Tryz.pinned (.plain (OpenSpec.ofChange fnFlowRightSpec)) fnFlowRightCard

/-- THE TIED CARD OF 'laws.FnExactCertified'. -/
def fnExactCertifiedCard : Claim7 := { stood := { row := fnExactCertifiedRow, standIns := [], harness := (true, "a00fd0112d39b832c1aeb4cc39b2ccba2584884c09470c0818d4a2667a7121ea"), looks := false }, kinds := [], alts := [], laidByText := true, laidKinds := [.listed, .data], laidTests := true, laidLooks := .later }
def FnExactCertifiedCardSaid : Prop := Claim7.holds Tryz.pinned (.plain (OpenSpec.ofChange fnExactCertifiedSpec)) fnExactCertifiedCard

/-- THE SECOND FORM's CARD OF 'laws.FnFlowAlarm'. -/
def fnFlowAlarmUptoCard : Claim7 := { stood := { row := fnFlowAlarmUptoRow, standIns := [], harness := (true, "a00fd0112d39b832c1aeb4cc39b2ccba2584884c09470c0818d4a2667a7121ea"), looks := false }, kinds := [], alts := [], laidByText := true, laidKinds := [.listed, .data], laidTests := true, laidLooks := .later }
def FnFlowAlarmUptoCardSaid : Prop := Claim7.holds Tryz.pinned (.plain (OpenSpec.upto fnFlowAlarmSpec)) fnFlowAlarmUptoCard

/-- THE SECOND FORM's CARD OF 'laws.FnFlowRight'. -/
def fnFlowRightUptoCard : Claim7 := { stood := { row := fnFlowRightUptoRow, standIns := [], harness := (true, "a00fd0112d39b832c1aeb4cc39b2ccba2584884c09470c0818d4a2667a7121ea"), looks := false }, kinds := [], alts := [], laidByText := true, laidKinds := [.listed, .data], laidTests := true, laidLooks := .later }
def FnFlowRightUptoCardSaid : Prop := Claim7.holds Tryz.pinned (.plain (OpenSpec.upto fnFlowRightSpec)) fnFlowRightUptoCard

/-- THE SECOND FORM's CARD OF 'laws.FnExactCertified'. -/
def fnExactCertifiedUptoCard : Claim7 := { stood := { row := fnExactCertifiedUptoRow, standIns := [], harness := (true, "a00fd0112d39b832c1aeb4cc39b2ccba2584884c09470c0818d4a2667a7121ea"), looks := false }, kinds := [], alts := [], laidByText := true, laidKinds := [.listed, .data], laidTests := true, laidLooks := .later }
def FnExactCertifiedUptoCardSaid : Prop := Claim7.holds Tryz.pinned (.plain (OpenSpec.upto fnExactCertifiedSpec)) fnExactCertifiedUptoCard
end Rows
end Go.Proofs.YtjjmipjhddlncaaGreatDoor
