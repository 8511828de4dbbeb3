/-
  DERIVED. GIVEN WITH THE SEED: THE CARDS: each row of YthdljdelfgofdaaGreatDoorRows.lean that lists a variable, with what it lists TIED to the program's text (the seventh form; the later family's looks); each row that meets fmt, with fmt's text TOLD by the authors' own Lean function (tested against real Go, not proved from fmt's source: count such statements apart). THE CARD IS WHAT COUNTS. Prove the row's statement (the work); the ties are given (YthdljdelfgofdaaGreatDoorTie.lean); close each card by the builder's one call (the guide's Derived/Test/ToyasCard.lean, 'card_holds'). Laid BY PROGRAM, IN A SANDBOX (cutbox-door.mjs). By AI agents, Wed Nov 11 2026. No macro, syntax, notation, axiom, sorry.
-/
import Derived.Test.YthdljdelfgofdaaGreatDoorRows
import GoSem.ClaimSeven
namespace Go.Proofs.YthdljdelfgofdaaGreatDoor
namespace Rows

/-- THE TIED CARD OF 'laws.FnExactReadScript'. -/
def fnExactReadScriptCard : Claim7 := { stood := { row := fnExactReadScriptRow, standIns := [], harness := (true, "33a2eb935ffc4a73f5aa0d4cb09ebfdab8b47c6c4db74fafad7cbe37a3c88d36"), looks := true }, kinds := [], alts := [], laidByText := true, laidKinds := [.data, .data, .data, .data, .sentinel, .sentinel, .pinned], laidTests := true, laidLooks := .later }
def FnExactReadScriptCardSaid : Prop := Claim7.holds Tryz.pinned (.plain (OpenSpec.ofChange fnExactReadScriptSpec)) fnExactReadScriptCard

/-- THE TIED CARD OF 'laws.FnDeskWorks'. -/
def fnDeskWorksCard : Claim7 := { stood := { row := fnDeskWorksRow, standIns := [], harness := (true, "33a2eb935ffc4a73f5aa0d4cb09ebfdab8b47c6c4db74fafad7cbe37a3c88d36"), looks := true }, kinds := [], alts := [], laidByText := true, laidKinds := [.data, .data, .data, .data, .sentinel, .sentinel, .pinned], laidTests := true, laidLooks := .later }
def FnDeskWorksCardSaid : Prop := Claim7.holds Tryz.pinned (.plain (OpenSpec.ofChange fnDeskWorksSpec)) fnDeskWorksCard

/-- THE TIED CARD OF 'laws.FnExactDesk'. -/
def fnExactDeskCard : Claim7 := { stood := { row := fnExactDeskRow, standIns := [], harness := (true, "33a2eb935ffc4a73f5aa0d4cb09ebfdab8b47c6c4db74fafad7cbe37a3c88d36"), looks := true }, kinds := [], alts := [], laidByText := true, laidKinds := [.data, .data, .data, .data, .sentinel, .sentinel, .pinned], laidTests := true, laidLooks := .later }
def FnExactDeskCardSaid : Prop := Claim7.holds Tryz.pinned (.plain (OpenSpec.ofChange fnExactDeskSpec)) fnExactDeskCard

/-- THE TIED CARD OF 'laws.FnDesk'. -/
def fnDeskCard : Claim7 := { stood := { row := fnDeskRow, standIns := [], harness := (true, "33a2eb935ffc4a73f5aa0d4cb09ebfdab8b47c6c4db74fafad7cbe37a3c88d36"), looks := true }, kinds := [], alts := [], laidByText := true, laidKinds := [.data, .data, .data, .data, .sentinel, .sentinel, .pinned], laidTests := true, laidLooks := .later }
def FnDeskCardSaid : Prop := Claim7.holds Tryz.pinned (.plain (OpenSpec.ofChange fnDeskSpec)) fnDeskCard

/-- THE SECOND FORM's CARD OF 'laws.FnExactReadScript'. -/
def fnExactReadScriptUptoCard : Claim7 := { stood := { row := fnExactReadScriptUptoRow, standIns := [], harness := (true, "33a2eb935ffc4a73f5aa0d4cb09ebfdab8b47c6c4db74fafad7cbe37a3c88d36"), looks := true }, kinds := [], alts := [], laidByText := true, laidKinds := [.data, .data, .data, .data, .sentinel, .sentinel, .pinned], laidTests := true, laidLooks := .later }
def FnExactReadScriptUptoCardSaid : Prop := Claim7.holds Tryz.pinned (.plain (OpenSpec.upto fnExactReadScriptSpec)) fnExactReadScriptUptoCard

/-- THE SECOND FORM's CARD OF 'laws.FnDeskWorks'. -/
def fnDeskWorksUptoCard : Claim7 := { stood := { row := fnDeskWorksUptoRow, standIns := [], harness := (true, "33a2eb935ffc4a73f5aa0d4cb09ebfdab8b47c6c4db74fafad7cbe37a3c88d36"), looks := true }, kinds := [], alts := [], laidByText := true, laidKinds := [.data, .data, .data, .data, .sentinel, .sentinel, .pinned], laidTests := true, laidLooks := .later }
def FnDeskWorksUptoCardSaid : Prop := Claim7.holds Tryz.pinned (.plain (OpenSpec.upto fnDeskWorksSpec)) fnDeskWorksUptoCard

/-- THE SECOND FORM's CARD OF 'laws.FnExactDesk'. -/
def fnExactDeskUptoCard : Claim7 := { stood := { row := fnExactDeskUptoRow, standIns := [], harness := (true, "33a2eb935ffc4a73f5aa0d4cb09ebfdab8b47c6c4db74fafad7cbe37a3c88d36"), looks := true }, kinds := [], alts := [], laidByText := true, laidKinds := [.data, .data, .data, .data, .sentinel, .sentinel, .pinned], laidTests := true, laidLooks := .later }
def FnExactDeskUptoCardSaid : Prop := Claim7.holds Tryz.pinned (.plain (OpenSpec.upto fnExactDeskSpec)) fnExactDeskUptoCard

/-- THE SECOND FORM's CARD OF 'laws.FnDesk'. -/
def fnDeskUptoCard : Claim7 := { stood := { row := fnDeskUptoRow, standIns := [], harness := (true, "33a2eb935ffc4a73f5aa0d4cb09ebfdab8b47c6c4db74fafad7cbe37a3c88d36"), looks := true }, kinds := [], alts := [], laidByText := true, laidKinds := [.data, .data, .data, .data, .sentinel, .sentinel, .pinned], laidTests := true, laidLooks := .later }
def FnDeskUptoCardSaid : Prop := Claim7.holds Tryz.pinned (.plain (OpenSpec.upto fnDeskSpec)) fnDeskUptoCard
end Rows
end Go.Proofs.YthdljdelfgofdaaGreatDoor
