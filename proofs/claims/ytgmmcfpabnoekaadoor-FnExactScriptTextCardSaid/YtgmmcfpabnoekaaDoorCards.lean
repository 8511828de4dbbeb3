/-
  DERIVED. GIVEN WITH THE SEED: THE CARDS: each row of YtgmmcfpabnoekaaDoorRows.lean that lists a variable, with what it lists TIED to the program's text (the seventh form; the later family's looks); each row that meets fmt, with fmt's text TOLD by the authors' own Lean function (tested against real Go, not proved from fmt's source: count such statements apart). THE CARD IS WHAT COUNTS. Prove the row's statement (the work); the ties are given (YtgmmcfpabnoekaaDoorTie.lean); close each card by the builder's one call (the guide's Derived/Test/ToyasCard.lean, 'card_holds'). Laid BY PROGRAM, IN A SANDBOX (cutbox-door.mjs). By AI agents, Wed Nov 11 2026. No macro, syntax, notation, axiom, sorry.
-/
import Derived.Test.YtgmmcfpabnoekaaDoorRows
import GoSem.ClaimSeven
namespace Go.Proofs.YtgmmcfpabnoekaaDoor
namespace Rows

/-- THE TIED CARD OF 'laws.FnExactDoneLine'. -/
def fnExactDoneLineCard : Claim7 := { stood := { row := fnExactDoneLineRow, standIns := [], harness := (true, "7ae7508f2dd2af1442406e6ff8e503902e8b2e704a84177496fc52562e5ea4cc"), looks := true }, kinds := [], alts := [], laidByText := true, laidKinds := [.data, .data, .data], laidTests := true, laidLooks := .later }
def FnExactDoneLineCardSaid : Prop := Claim7.holds Tryd.pinned (.plain (OpenSpec.ofChange fnExactDoneLineSpec)) fnExactDoneLineCard

/-- THE TIED CARD OF 'laws.FnExactWaveLine'. -/
def fnExactWaveLineCard : Claim7 := { stood := { row := fnExactWaveLineRow, standIns := [], harness := (true, "7ae7508f2dd2af1442406e6ff8e503902e8b2e704a84177496fc52562e5ea4cc"), looks := true }, kinds := [], alts := [], laidByText := true, laidKinds := [.data, .data, .data], laidTests := true, laidLooks := .later }
def FnExactWaveLineCardSaid : Prop := Claim7.holds Tryd.pinned (.plain (OpenSpec.ofChange fnExactWaveLineSpec)) fnExactWaveLineCard

/-- THE TIED CARD OF 'laws.FnExactLogText'. -/
def fnExactLogTextCard : Claim7 := { stood := { row := fnExactLogTextRow, standIns := [], harness := (true, "7ae7508f2dd2af1442406e6ff8e503902e8b2e704a84177496fc52562e5ea4cc"), looks := true }, kinds := [], alts := [], laidByText := true, laidKinds := [.data, .data, .data], laidTests := true, laidLooks := .later }
def FnExactLogTextCardSaid : Prop := Claim7.holds Tryd.pinned (.plain (OpenSpec.ofChange fnExactLogTextSpec)) fnExactLogTextCard

/-- THE TIED CARD OF 'laws.FnExactScriptText'. -/
def fnExactScriptTextCard : Claim7 := { stood := { row := fnExactScriptTextRow, standIns := [], harness := (true, "7ae7508f2dd2af1442406e6ff8e503902e8b2e704a84177496fc52562e5ea4cc"), looks := true }, kinds := [], alts := [], laidByText := true, laidKinds := [.data, .data, .data], laidTests := true, laidLooks := .later }
def FnExactScriptTextCardSaid : Prop := Claim7.holds Tryd.pinned (.plain (OpenSpec.ofChange fnExactScriptTextSpec)) fnExactScriptTextCard

/-- THE TIED CARD OF 'laws.FnExactReadConf'. -/
def fnExactReadConfCard : Claim7 := { stood := { row := fnExactReadConfRow, standIns := [], harness := (true, "7ae7508f2dd2af1442406e6ff8e503902e8b2e704a84177496fc52562e5ea4cc"), looks := true }, kinds := [], alts := [], laidByText := true, laidKinds := [.data, .data, .data, .data, .sentinel, .sentinel, .pinned], laidTests := true, laidLooks := .later }
def FnExactReadConfCardSaid : Prop := Claim7.holds Tryd.pinned (.plain (OpenSpec.ofChange fnExactReadConfSpec)) fnExactReadConfCard

/-- THE TIED CARD OF 'laws.FnConfs'. -/
def fnConfsCard : Claim7 := { stood := { row := fnConfsRow, standIns := [], harness := (true, "7ae7508f2dd2af1442406e6ff8e503902e8b2e704a84177496fc52562e5ea4cc"), looks := true }, kinds := [], alts := [], laidByText := true, laidKinds := [.data, .data, .data, .data, .sentinel, .sentinel, .pinned], laidTests := true, laidLooks := .later }
def FnConfsCardSaid : Prop := Claim7.holds Tryd.pinned (.plain (OpenSpec.ofChange fnConfsSpec)) fnConfsCard

/-- THE SECOND FORM's CARD OF 'laws.FnExactDoneLine'. -/
def fnExactDoneLineUptoCard : Claim7 := { stood := { row := fnExactDoneLineUptoRow, standIns := [], harness := (true, "7ae7508f2dd2af1442406e6ff8e503902e8b2e704a84177496fc52562e5ea4cc"), looks := true }, kinds := [], alts := [], laidByText := true, laidKinds := [.data, .data, .data], laidTests := true, laidLooks := .later }
def FnExactDoneLineUptoCardSaid : Prop := Claim7.holds Tryd.pinned (.plain (OpenSpec.upto fnExactDoneLineSpec)) fnExactDoneLineUptoCard

/-- THE SECOND FORM's CARD OF 'laws.FnExactWaveLine'. -/
def fnExactWaveLineUptoCard : Claim7 := { stood := { row := fnExactWaveLineUptoRow, standIns := [], harness := (true, "7ae7508f2dd2af1442406e6ff8e503902e8b2e704a84177496fc52562e5ea4cc"), looks := true }, kinds := [], alts := [], laidByText := true, laidKinds := [.data, .data, .data], laidTests := true, laidLooks := .later }
def FnExactWaveLineUptoCardSaid : Prop := Claim7.holds Tryd.pinned (.plain (OpenSpec.upto fnExactWaveLineSpec)) fnExactWaveLineUptoCard

/-- THE SECOND FORM's CARD OF 'laws.FnExactLogText'. -/
def fnExactLogTextUptoCard : Claim7 := { stood := { row := fnExactLogTextUptoRow, standIns := [], harness := (true, "7ae7508f2dd2af1442406e6ff8e503902e8b2e704a84177496fc52562e5ea4cc"), looks := true }, kinds := [], alts := [], laidByText := true, laidKinds := [.data, .data, .data], laidTests := true, laidLooks := .later }
def FnExactLogTextUptoCardSaid : Prop := Claim7.holds Tryd.pinned (.plain (OpenSpec.upto fnExactLogTextSpec)) fnExactLogTextUptoCard

/-- THE SECOND FORM's CARD OF 'laws.FnExactScriptText'. -/
def fnExactScriptTextUptoCard : Claim7 := { stood := { row := fnExactScriptTextUptoRow, standIns := [], harness := (true, "7ae7508f2dd2af1442406e6ff8e503902e8b2e704a84177496fc52562e5ea4cc"), looks := true }, kinds := [], alts := [], laidByText := true, laidKinds := [.data, .data, .data], laidTests := true, laidLooks := .later }
def FnExactScriptTextUptoCardSaid : Prop := Claim7.holds Tryd.pinned (.plain (OpenSpec.upto fnExactScriptTextSpec)) fnExactScriptTextUptoCard

/-- THE SECOND FORM's CARD OF 'laws.FnExactReadConf'. -/
def fnExactReadConfUptoCard : Claim7 := { stood := { row := fnExactReadConfUptoRow, standIns := [], harness := (true, "7ae7508f2dd2af1442406e6ff8e503902e8b2e704a84177496fc52562e5ea4cc"), looks := true }, kinds := [], alts := [], laidByText := true, laidKinds := [.data, .data, .data, .data, .sentinel, .sentinel, .pinned], laidTests := true, laidLooks := .later }
def FnExactReadConfUptoCardSaid : Prop := Claim7.holds Tryd.pinned (.plain (OpenSpec.upto fnExactReadConfSpec)) fnExactReadConfUptoCard

/-- THE SECOND FORM's CARD OF 'laws.FnConfs'. -/
def fnConfsUptoCard : Claim7 := { stood := { row := fnConfsUptoRow, standIns := [], harness := (true, "7ae7508f2dd2af1442406e6ff8e503902e8b2e704a84177496fc52562e5ea4cc"), looks := true }, kinds := [], alts := [], laidByText := true, laidKinds := [.data, .data, .data, .data, .sentinel, .sentinel, .pinned], laidTests := true, laidLooks := .later }
def FnConfsUptoCardSaid : Prop := Claim7.holds Tryd.pinned (.plain (OpenSpec.upto fnConfsSpec)) fnConfsUptoCard
end Rows
end Go.Proofs.YtgmmcfpabnoekaaDoor
