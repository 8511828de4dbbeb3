/-
  DERIVED. GIVEN WITH THE SEED: THE CARDS: each row of YtlcfolgfmlgncaaDoorRows.lean that lists a variable, with what it lists TIED to the program's text (the seventh form; the later family's looks); each row that meets fmt, with fmt's text TOLD by the authors' own Lean function (tested against real Go, not proved from fmt's source: count such statements apart). THE CARD IS WHAT COUNTS. Prove the row's statement (the work); the ties are given (YtlcfolgfmlgncaaDoorTie.lean); close each card by the builder's one call (the guide's Derived/Test/ToyasCard.lean, 'card_holds'). Laid BY PROGRAM, IN A SANDBOX (cutbox-door.mjs). By AI agents, Wed Nov 11 2026. No macro, syntax, notation, axiom, sorry.
-/
import Derived.Test.YtlcfolgfmlgncaaDoorRows
import GoSem.ClaimSeven
namespace Go.Proofs.YtlcfolgfmlgncaaDoor
namespace Rows

/-- THE TIED CARD OF 'laws.FnExactReadConf'. -/
def fnExactReadConfCard : Claim7 := { stood := { row := fnExactReadConfRow, standIns := [], harness := (true, "a3039307c54d30ccee6e0541253cd66d9974d21fae351b4fc995d83156892b68"), looks := true }, kinds := [], alts := [], laidByText := true, laidKinds := [.data, .data, .data, .data, .sentinel, .sentinel, .pinned], laidTests := true, laidLooks := .later }
def FnExactReadConfCardSaid : Prop := Claim7.holds Tryd.pinned (.plain (OpenSpec.ofChange fnExactReadConfSpec)) fnExactReadConfCard

/-- THE TIED CARD OF 'laws.FnConfs'. -/
def fnConfsCard : Claim7 := { stood := { row := fnConfsRow, standIns := [], harness := (true, "a3039307c54d30ccee6e0541253cd66d9974d21fae351b4fc995d83156892b68"), looks := true }, kinds := [], alts := [], laidByText := true, laidKinds := [.data, .data, .data, .data, .sentinel, .sentinel, .pinned], laidTests := true, laidLooks := .later }
def FnConfsCardSaid : Prop := Claim7.holds Tryd.pinned (.plain (OpenSpec.ofChange fnConfsSpec)) fnConfsCard

/-- THE SECOND FORM's CARD OF 'laws.FnExactReadConf'. -/
def fnExactReadConfUptoCard : Claim7 := { stood := { row := fnExactReadConfUptoRow, standIns := [], harness := (true, "a3039307c54d30ccee6e0541253cd66d9974d21fae351b4fc995d83156892b68"), looks := true }, kinds := [], alts := [], laidByText := true, laidKinds := [.data, .data, .data, .data, .sentinel, .sentinel, .pinned], laidTests := true, laidLooks := .later }
def FnExactReadConfUptoCardSaid : Prop := Claim7.holds Tryd.pinned (.plain (OpenSpec.upto fnExactReadConfSpec)) fnExactReadConfUptoCard

/-- THE SECOND FORM's CARD OF 'laws.FnConfs'. -/
def fnConfsUptoCard : Claim7 := { stood := { row := fnConfsUptoRow, standIns := [], harness := (true, "a3039307c54d30ccee6e0541253cd66d9974d21fae351b4fc995d83156892b68"), looks := true }, kinds := [], alts := [], laidByText := true, laidKinds := [.data, .data, .data, .data, .sentinel, .sentinel, .pinned], laidTests := true, laidLooks := .later }
def FnConfsUptoCardSaid : Prop := Claim7.holds Tryd.pinned (.plain (OpenSpec.upto fnConfsSpec)) fnConfsUptoCard
end Rows
end Go.Proofs.YtlcfolgfmlgncaaDoor
