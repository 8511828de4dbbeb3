/-
  No cell of these rows narrows 'for every input' (looked for: loops, veiled, ifaces, maps, wideKeys, modest, calm, conditions, laid).
  DERIVED. THE GIVEN ROWS OF THIS SEAT. 12 by the template 'for every input the law returns true; each argument reads behind the call as it read before'; 0 by the template 'total and deterministic' (their statements: YtolbhpampnjinaaTotals.lean).
  GIVEN WITH THE SEED: the statements are not yours to turn. If you find one false, say at which input.
  Laid BY PROGRAM, IN A SANDBOX (cutbox-rows.mjs): the forced cells as the released guide's own fill.sh prints them over the translation ff563fa7db8df66c… (all of the seat's roots in one cut). By AI agents, Wed Nov 11 2026. No macro, syntax, notation, axiom, sorry.
-/
import Derived.Test.YtolbhpampnjinaaChecked
import GoSem.Claim
import GoSem.ClaimJoined
import GoSem.ClaimMapViews
import Derived.JoinedTies
import Derived.KernelRfl
namespace Go.Proofs.Ytolbhpampnjinaa
/- THE CELL 'sum', in the pinned program and in every row, IS THE sha256 OF THE DUMP (.gsa) THAT YtolbhpampnjinaaProg.lean LOADS. Nothing in Lean hashes anything: it is a label: what it is worth is what the hold of that sum in a sandbox is worth. -/
noncomputable def Try.pinned : Pinned := { name := "ytolbhpampnjinaa", sum := "ff563fa7db8df66c1d53d4ab417d30e1eeb6829509404005aca7559e0c9a01f8", checked := Try.checked }
namespace Rows
def none {H : Type} : Left H := { results := [], args := [] }

/-- 'laws.FnExactBusyOf': WHATEVER THE INPUT: true; the input reads as it did. -/
def fnExactBusyOfSpec : ChangeSpec := { name := "fnExactBusyOf", fn := fun _ => fun
  | [d] => { results := [.lit (.bool true)], args := [d] }
  | _ => none }
def fnExactBusyOfRow : OpenClaim := { program := "ytolbhpampnjinaa", sum := "ff563fa7db8df66c1d53d4ab417d30e1eeb6829509404005aca7559e0c9a01f8", func := "loop.example/g01623/laws.FnExactBusyOf", spec := "fnExactBusyOf", unfollowed := true, recurses := true, apart := false }
def FnExactBusyOfSaid : Prop := fnExactBusyOfRow.holds Try.pinned (OpenSpec.ofChange fnExactBusyOfSpec)

/-- ITS FALSE NEIGHBOUR: 'it returns false'. Refute it at one input. -/
def fnExactBusyOfWrong : ChangeSpec := { name := "fnExactBusyOf", fn := fun _ => fun
  | [d] => { results := [.lit (.bool false)], args := [d] }
  | _ => none }
def FnExactBusyOfWrongFalsely : Prop := fnExactBusyOfRow.holds Try.pinned (OpenSpec.ofChange fnExactBusyOfWrong)

/-- 'laws.FnExactCancelled': WHATEVER THE INPUT: true; the input reads as it did. -/
def fnExactCancelledSpec : ChangeSpec := { name := "fnExactCancelled", fn := fun _ => fun
  | [d] => { results := [.lit (.bool true)], args := [d] }
  | _ => none }
def fnExactCancelledRow : OpenClaim := { program := "ytolbhpampnjinaa", sum := "ff563fa7db8df66c1d53d4ab417d30e1eeb6829509404005aca7559e0c9a01f8", func := "loop.example/g01623/laws.FnExactCancelled", spec := "fnExactCancelled", unfollowed := true, recurses := true, apart := false }
def FnExactCancelledSaid : Prop := fnExactCancelledRow.holds Try.pinned (OpenSpec.ofChange fnExactCancelledSpec)

/-- ITS FALSE NEIGHBOUR: 'it returns false'. Refute it at one input. -/
def fnExactCancelledWrong : ChangeSpec := { name := "fnExactCancelled", fn := fun _ => fun
  | [d] => { results := [.lit (.bool false)], args := [d] }
  | _ => none }
def FnExactCancelledWrongFalsely : Prop := fnExactCancelledRow.holds Try.pinned (OpenSpec.ofChange fnExactCancelledWrong)

/-- 'laws.FnExactCountResp': WHATEVER THE INPUT: true; the input reads as it did. -/
def fnExactCountRespSpec : ChangeSpec := { name := "fnExactCountResp", fn := fun _ => fun
  | [d1, d2] => { results := [.lit (.bool true)], args := [d1, d2] }
  | _ => none }
def fnExactCountRespRow : OpenClaim := { program := "ytolbhpampnjinaa", sum := "ff563fa7db8df66c1d53d4ab417d30e1eeb6829509404005aca7559e0c9a01f8", func := "loop.example/g01623/laws.FnExactCountResp", spec := "fnExactCountResp", unfollowed := true, recurses := true, apart := false }
def FnExactCountRespSaid : Prop := fnExactCountRespRow.holds Try.pinned (OpenSpec.ofChange fnExactCountRespSpec)

/-- ITS FALSE NEIGHBOUR: 'it returns false'. Refute it at one input. -/
def fnExactCountRespWrong : ChangeSpec := { name := "fnExactCountResp", fn := fun _ => fun
  | [d1, d2] => { results := [.lit (.bool false)], args := [d1, d2] }
  | _ => none }
def FnExactCountRespWrongFalsely : Prop := fnExactCountRespRow.holds Try.pinned (OpenSpec.ofChange fnExactCountRespWrong)

/-- 'laws.FnExactWaitsOf': WHATEVER THE INPUT: true; the input reads as it did. -/
def fnExactWaitsOfSpec : ChangeSpec := { name := "fnExactWaitsOf", fn := fun _ => fun
  | [d] => { results := [.lit (.bool true)], args := [d] }
  | _ => none }
def fnExactWaitsOfRow : OpenClaim := { program := "ytolbhpampnjinaa", sum := "ff563fa7db8df66c1d53d4ab417d30e1eeb6829509404005aca7559e0c9a01f8", func := "loop.example/g01623/laws.FnExactWaitsOf", spec := "fnExactWaitsOf", unfollowed := true, recurses := true, apart := false }
def FnExactWaitsOfSaid : Prop := fnExactWaitsOfRow.holds Try.pinned (OpenSpec.ofChange fnExactWaitsOfSpec)

/-- ITS FALSE NEIGHBOUR: 'it returns false'. Refute it at one input. -/
def fnExactWaitsOfWrong : ChangeSpec := { name := "fnExactWaitsOf", fn := fun _ => fun
  | [d] => { results := [.lit (.bool false)], args := [d] }
  | _ => none }
def FnExactWaitsOfWrongFalsely : Prop := fnExactWaitsOfRow.holds Try.pinned (OpenSpec.ofChange fnExactWaitsOfWrong)

/-- 'laws.FnPhases': WHATEVER THE INPUT: true; the input reads as it did. -/
def fnPhasesSpec : ChangeSpec := { name := "fnPhases", fn := fun _ => fun
  | [d] => { results := [.lit (.bool true)], args := [d] }
  | _ => none }
def fnPhasesRow : OpenClaim := { program := "ytolbhpampnjinaa", sum := "ff563fa7db8df66c1d53d4ab417d30e1eeb6829509404005aca7559e0c9a01f8", func := "loop.example/g01623/laws.FnPhases", spec := "fnPhases", apart := false }
def FnPhasesSaid : Prop := fnPhasesRow.holds Try.pinned (OpenSpec.ofChange fnPhasesSpec)

/-- ITS FALSE NEIGHBOUR: 'it returns false'. Refute it at one input. -/
def fnPhasesWrong : ChangeSpec := { name := "fnPhases", fn := fun _ => fun
  | [d] => { results := [.lit (.bool false)], args := [d] }
  | _ => none }
def FnPhasesWrongFalsely : Prop := fnPhasesRow.holds Try.pinned (OpenSpec.ofChange fnPhasesWrong)

/-- 'laws.FnExactApbStates': WHATEVER THE INPUT: true; the input reads as it did. -/
def fnExactApbStatesSpec : ChangeSpec := { name := "fnExactApbStates", fn := fun _ => fun
  | [d] => { results := [.lit (.bool true)], args := [d] }
  | _ => none }
def fnExactApbStatesRow : OpenClaim := { program := "ytolbhpampnjinaa", sum := "ff563fa7db8df66c1d53d4ab417d30e1eeb6829509404005aca7559e0c9a01f8", func := "loop.example/g01623/laws.FnExactApbStates", spec := "fnExactApbStates", apart := false }
def FnExactApbStatesSaid : Prop := fnExactApbStatesRow.holds Try.pinned (OpenSpec.ofChange fnExactApbStatesSpec)

/-- ITS FALSE NEIGHBOUR: 'it returns false'. Refute it at one input. -/
def fnExactApbStatesWrong : ChangeSpec := { name := "fnExactApbStates", fn := fun _ => fun
  | [d] => { results := [.lit (.bool false)], args := [d] }
  | _ => none }
def FnExactApbStatesWrongFalsely : Prop := fnExactApbStatesRow.holds Try.pinned (OpenSpec.ofChange fnExactApbStatesWrong)

/-- 'laws.FnExactValuesOf': WHATEVER THE INPUT: true; the input reads as it did. -/
def fnExactValuesOfSpec : ChangeSpec := { name := "fnExactValuesOf", fn := fun _ => fun
  | [d] => { results := [.lit (.bool true)], args := [d] }
  | _ => none }
def fnExactValuesOfRow : OpenClaim := { program := "ytolbhpampnjinaa", sum := "ff563fa7db8df66c1d53d4ab417d30e1eeb6829509404005aca7559e0c9a01f8", func := "loop.example/g01623/laws.FnExactValuesOf", spec := "fnExactValuesOf", apart := false }
def FnExactValuesOfSaid : Prop := fnExactValuesOfRow.holds Try.pinned (OpenSpec.ofChange fnExactValuesOfSpec)

/-- ITS FALSE NEIGHBOUR: 'it returns false'. Refute it at one input. -/
def fnExactValuesOfWrong : ChangeSpec := { name := "fnExactValuesOf", fn := fun _ => fun
  | [d] => { results := [.lit (.bool false)], args := [d] }
  | _ => none }
def FnExactValuesOfWrongFalsely : Prop := fnExactValuesOfRow.holds Try.pinned (OpenSpec.ofChange fnExactValuesOfWrong)

/-- 'laws.FnExactLastPost': WHATEVER THE INPUT: true; the input reads as it did. -/
def fnExactLastPostSpec : ChangeSpec := { name := "fnExactLastPost", fn := fun _ => fun
  | [d] => { results := [.lit (.bool true)], args := [d] }
  | _ => none }
def fnExactLastPostRow : OpenClaim := { program := "ytolbhpampnjinaa", sum := "ff563fa7db8df66c1d53d4ab417d30e1eeb6829509404005aca7559e0c9a01f8", func := "loop.example/g01623/laws.FnExactLastPost", spec := "fnExactLastPost", apart := false }
def FnExactLastPostSaid : Prop := fnExactLastPostRow.holds Try.pinned (OpenSpec.ofChange fnExactLastPostSpec)

/-- ITS FALSE NEIGHBOUR: 'it returns false'. Refute it at one input. -/
def fnExactLastPostWrong : ChangeSpec := { name := "fnExactLastPost", fn := fun _ => fun
  | [d] => { results := [.lit (.bool false)], args := [d] }
  | _ => none }
def FnExactLastPostWrongFalsely : Prop := fnExactLastPostRow.holds Try.pinned (OpenSpec.ofChange fnExactLastPostWrong)

/-- 'laws.FnExactSpreadMost': WHATEVER THE INPUT: true; the input reads as it did. -/
def fnExactSpreadMostSpec : ChangeSpec := { name := "fnExactSpreadMost", fn := fun _ => fun
  | [d1, d2, d3] => { results := [.lit (.bool true)], args := [d1, d2, d3] }
  | _ => none }
def fnExactSpreadMostRow : OpenClaim := { program := "ytolbhpampnjinaa", sum := "ff563fa7db8df66c1d53d4ab417d30e1eeb6829509404005aca7559e0c9a01f8", func := "loop.example/g01623/laws.FnExactSpreadMost", spec := "fnExactSpreadMost", unfollowed := true, recurses := true, apart := false }
def FnExactSpreadMostSaid : Prop := fnExactSpreadMostRow.holds Try.pinned (OpenSpec.ofChange fnExactSpreadMostSpec)

/-- ITS FALSE NEIGHBOUR: 'it returns false'. Refute it at one input. -/
def fnExactSpreadMostWrong : ChangeSpec := { name := "fnExactSpreadMost", fn := fun _ => fun
  | [d1, d2, d3] => { results := [.lit (.bool false)], args := [d1, d2, d3] }
  | _ => none }
def FnExactSpreadMostWrongFalsely : Prop := fnExactSpreadMostRow.holds Try.pinned (OpenSpec.ofChange fnExactSpreadMostWrong)

/-- 'laws.FnExactSameScript': WHATEVER THE INPUT: true; the input reads as it did. -/
def fnExactSameScriptSpec : ChangeSpec := { name := "fnExactSameScript", fn := fun _ => fun
  | [d1, d2] => { results := [.lit (.bool true)], args := [d1, d2] }
  | _ => none }
def fnExactSameScriptRow : OpenClaim := { program := "ytolbhpampnjinaa", sum := "ff563fa7db8df66c1d53d4ab417d30e1eeb6829509404005aca7559e0c9a01f8", func := "loop.example/g01623/laws.FnExactSameScript", spec := "fnExactSameScript", unfollowed := true, recurses := true, apart := false }
def FnExactSameScriptSaid : Prop := fnExactSameScriptRow.holds Try.pinned (OpenSpec.ofChange fnExactSameScriptSpec)

/-- ITS FALSE NEIGHBOUR: 'it returns false'. Refute it at one input. -/
def fnExactSameScriptWrong : ChangeSpec := { name := "fnExactSameScript", fn := fun _ => fun
  | [d1, d2] => { results := [.lit (.bool false)], args := [d1, d2] }
  | _ => none }
def FnExactSameScriptWrongFalsely : Prop := fnExactSameScriptRow.holds Try.pinned (OpenSpec.ofChange fnExactSameScriptWrong)

/-- 'laws.FnFair': WHATEVER THE INPUT: true; the input reads as it did. -/
def fnFairSpec : ChangeSpec := { name := "fnFair", fn := fun _ => fun
  | [d] => { results := [.lit (.bool true)], args := [d] }
  | _ => none }
def fnFairRow : OpenClaim := { program := "ytolbhpampnjinaa", sum := "ff563fa7db8df66c1d53d4ab417d30e1eeb6829509404005aca7559e0c9a01f8", func := "loop.example/g01623/laws.FnFair", spec := "fnFair", unfollowed := true, recurses := true, apart := false }
def FnFairSaid : Prop := fnFairRow.holds Try.pinned (OpenSpec.ofChange fnFairSpec)

/-- ITS FALSE NEIGHBOUR: 'it returns false'. Refute it at one input. -/
def fnFairWrong : ChangeSpec := { name := "fnFair", fn := fun _ => fun
  | [d] => { results := [.lit (.bool false)], args := [d] }
  | _ => none }
def FnFairWrongFalsely : Prop := fnFairRow.holds Try.pinned (OpenSpec.ofChange fnFairWrong)

/-- 'laws.FnExactSpread': WHATEVER THE INPUT: true; the input reads as it did. -/
def fnExactSpreadSpec : ChangeSpec := { name := "fnExactSpread", fn := fun _ => fun
  | [d1, d2, d3, d4] => { results := [.lit (.bool true)], args := [d1, d2, d3, d4] }
  | _ => none }
def fnExactSpreadRow : OpenClaim := { program := "ytolbhpampnjinaa", sum := "ff563fa7db8df66c1d53d4ab417d30e1eeb6829509404005aca7559e0c9a01f8", func := "loop.example/g01623/laws.FnExactSpread", spec := "fnExactSpread", unfollowed := true, recurses := true, apart := false }
def FnExactSpreadSaid : Prop := fnExactSpreadRow.holds Try.pinned (OpenSpec.ofChange fnExactSpreadSpec)

/-- ITS FALSE NEIGHBOUR: 'it returns false'. Refute it at one input. -/
def fnExactSpreadWrong : ChangeSpec := { name := "fnExactSpread", fn := fun _ => fun
  | [d1, d2, d3, d4] => { results := [.lit (.bool false)], args := [d1, d2, d3, d4] }
  | _ => none }
def FnExactSpreadWrongFalsely : Prop := fnExactSpreadRow.holds Try.pinned (OpenSpec.ofChange fnExactSpreadWrong)

/- THE SECOND FORM. 'bulk': how many values and letters a reading holds, each counted each time it is reached (what is shared counts as often as it is met; a slice's spare places count too). A statement '..UptoSaid' is the law's where the arguments, and the package variables that the reading takes, are together of bulk at most 1048576: NARROWER than '..Said'. Prove '..Said' where nothing that the law and all that it calls make is longer than what came in: it says more and counts as full. Else prove '..UptoSaid'. A law counts once. -/
mutual
def uptoBulk {H : Type} : DataW H → Nat
  | .lit (.string bytes) => bytes.length + 1
  | .lit _ => 1
  | .nil => 1
  | .ptr d => uptoBulk d + 1
  | .slice elems spare => uptoBulkAll elems + uptoBulkAll spare + 1
  | .agg parts => uptoBulkAll parts + 1
  | .iface _ d => uptoBulk d + 1
  | .map entries => uptoBulkEntries entries + 1
  | .held _ => 1
def uptoBulkAll {H : Type} : List (DataW H) → Nat
  | [] => 0
  | d :: r => uptoBulk d + uptoBulkAll r
def uptoBulkEntries {H : Type} : List (Lit × DataW H) → Nat
  | [] => 0
  | x :: r => uptoBulkEntry x + uptoBulkEntries r
def uptoBulkEntry {H : Type} : Lit × DataW H → Nat
  | (.string bytes, d) => bytes.length + uptoBulk d + 1
  | (_, d) => uptoBulk d + 1
 end
def uptoSmall : (H : Type) → List (DataW H) → Bool := fun _ ds => decide (uptoBulkAll ds ≤ 1048576)
def OpenSpec.upto (s : _root_.Go.ChangeSpec) : _root_.Go.OpenSpec := { _root_.Go.OpenSpec.ofChange s with cond := some uptoSmall }

/-- 'laws.FnExactBusyOf', WHERE WHAT IT READS IS OF BULK AT MOST 1048576: true; the input reads as it did. -/
def fnExactBusyOfUptoRow : OpenClaim := { program := "ytolbhpampnjinaa", sum := "ff563fa7db8df66c1d53d4ab417d30e1eeb6829509404005aca7559e0c9a01f8", func := "loop.example/g01623/laws.FnExactBusyOf", spec := "fnExactBusyOf", unfollowed := true, recurses := true, apart := false, narrowed := true }
def FnExactBusyOfUptoSaid : Prop := fnExactBusyOfUptoRow.holds Try.pinned (OpenSpec.upto fnExactBusyOfSpec)

/-- 'laws.FnExactCancelled', WHERE WHAT IT READS IS OF BULK AT MOST 1048576: true; the input reads as it did. -/
def fnExactCancelledUptoRow : OpenClaim := { program := "ytolbhpampnjinaa", sum := "ff563fa7db8df66c1d53d4ab417d30e1eeb6829509404005aca7559e0c9a01f8", func := "loop.example/g01623/laws.FnExactCancelled", spec := "fnExactCancelled", unfollowed := true, recurses := true, apart := false, narrowed := true }
def FnExactCancelledUptoSaid : Prop := fnExactCancelledUptoRow.holds Try.pinned (OpenSpec.upto fnExactCancelledSpec)

/-- 'laws.FnExactCountResp', WHERE WHAT IT READS IS OF BULK AT MOST 1048576: true; the input reads as it did. -/
def fnExactCountRespUptoRow : OpenClaim := { program := "ytolbhpampnjinaa", sum := "ff563fa7db8df66c1d53d4ab417d30e1eeb6829509404005aca7559e0c9a01f8", func := "loop.example/g01623/laws.FnExactCountResp", spec := "fnExactCountResp", unfollowed := true, recurses := true, apart := false, narrowed := true }
def FnExactCountRespUptoSaid : Prop := fnExactCountRespUptoRow.holds Try.pinned (OpenSpec.upto fnExactCountRespSpec)

/-- 'laws.FnExactWaitsOf', WHERE WHAT IT READS IS OF BULK AT MOST 1048576: true; the input reads as it did. -/
def fnExactWaitsOfUptoRow : OpenClaim := { program := "ytolbhpampnjinaa", sum := "ff563fa7db8df66c1d53d4ab417d30e1eeb6829509404005aca7559e0c9a01f8", func := "loop.example/g01623/laws.FnExactWaitsOf", spec := "fnExactWaitsOf", unfollowed := true, recurses := true, apart := false, narrowed := true }
def FnExactWaitsOfUptoSaid : Prop := fnExactWaitsOfUptoRow.holds Try.pinned (OpenSpec.upto fnExactWaitsOfSpec)

/-- 'laws.FnPhases', WHERE WHAT IT READS IS OF BULK AT MOST 1048576: true; the input reads as it did. -/
def fnPhasesUptoRow : OpenClaim := { program := "ytolbhpampnjinaa", sum := "ff563fa7db8df66c1d53d4ab417d30e1eeb6829509404005aca7559e0c9a01f8", func := "loop.example/g01623/laws.FnPhases", spec := "fnPhases", apart := false, narrowed := true }
def FnPhasesUptoSaid : Prop := fnPhasesUptoRow.holds Try.pinned (OpenSpec.upto fnPhasesSpec)

/-- 'laws.FnExactApbStates', WHERE WHAT IT READS IS OF BULK AT MOST 1048576: true; the input reads as it did. -/
def fnExactApbStatesUptoRow : OpenClaim := { program := "ytolbhpampnjinaa", sum := "ff563fa7db8df66c1d53d4ab417d30e1eeb6829509404005aca7559e0c9a01f8", func := "loop.example/g01623/laws.FnExactApbStates", spec := "fnExactApbStates", apart := false, narrowed := true }
def FnExactApbStatesUptoSaid : Prop := fnExactApbStatesUptoRow.holds Try.pinned (OpenSpec.upto fnExactApbStatesSpec)

/-- 'laws.FnExactValuesOf', WHERE WHAT IT READS IS OF BULK AT MOST 1048576: true; the input reads as it did. -/
def fnExactValuesOfUptoRow : OpenClaim := { program := "ytolbhpampnjinaa", sum := "ff563fa7db8df66c1d53d4ab417d30e1eeb6829509404005aca7559e0c9a01f8", func := "loop.example/g01623/laws.FnExactValuesOf", spec := "fnExactValuesOf", apart := false, narrowed := true }
def FnExactValuesOfUptoSaid : Prop := fnExactValuesOfUptoRow.holds Try.pinned (OpenSpec.upto fnExactValuesOfSpec)

/-- 'laws.FnExactLastPost', WHERE WHAT IT READS IS OF BULK AT MOST 1048576: true; the input reads as it did. -/
def fnExactLastPostUptoRow : OpenClaim := { program := "ytolbhpampnjinaa", sum := "ff563fa7db8df66c1d53d4ab417d30e1eeb6829509404005aca7559e0c9a01f8", func := "loop.example/g01623/laws.FnExactLastPost", spec := "fnExactLastPost", apart := false, narrowed := true }
def FnExactLastPostUptoSaid : Prop := fnExactLastPostUptoRow.holds Try.pinned (OpenSpec.upto fnExactLastPostSpec)

/-- 'laws.FnExactSpreadMost', WHERE WHAT IT READS IS OF BULK AT MOST 1048576: true; the input reads as it did. -/
def fnExactSpreadMostUptoRow : OpenClaim := { program := "ytolbhpampnjinaa", sum := "ff563fa7db8df66c1d53d4ab417d30e1eeb6829509404005aca7559e0c9a01f8", func := "loop.example/g01623/laws.FnExactSpreadMost", spec := "fnExactSpreadMost", unfollowed := true, recurses := true, apart := false, narrowed := true }
def FnExactSpreadMostUptoSaid : Prop := fnExactSpreadMostUptoRow.holds Try.pinned (OpenSpec.upto fnExactSpreadMostSpec)

/-- 'laws.FnExactSameScript', WHERE WHAT IT READS IS OF BULK AT MOST 1048576: true; the input reads as it did. -/
def fnExactSameScriptUptoRow : OpenClaim := { program := "ytolbhpampnjinaa", sum := "ff563fa7db8df66c1d53d4ab417d30e1eeb6829509404005aca7559e0c9a01f8", func := "loop.example/g01623/laws.FnExactSameScript", spec := "fnExactSameScript", unfollowed := true, recurses := true, apart := false, narrowed := true }
def FnExactSameScriptUptoSaid : Prop := fnExactSameScriptUptoRow.holds Try.pinned (OpenSpec.upto fnExactSameScriptSpec)

/-- 'laws.FnFair', WHERE WHAT IT READS IS OF BULK AT MOST 1048576: true; the input reads as it did. -/
def fnFairUptoRow : OpenClaim := { program := "ytolbhpampnjinaa", sum := "ff563fa7db8df66c1d53d4ab417d30e1eeb6829509404005aca7559e0c9a01f8", func := "loop.example/g01623/laws.FnFair", spec := "fnFair", unfollowed := true, recurses := true, apart := false, narrowed := true }
def FnFairUptoSaid : Prop := fnFairUptoRow.holds Try.pinned (OpenSpec.upto fnFairSpec)

/-- 'laws.FnExactSpread', WHERE WHAT IT READS IS OF BULK AT MOST 1048576: true; the input reads as it did. -/
def fnExactSpreadUptoRow : OpenClaim := { program := "ytolbhpampnjinaa", sum := "ff563fa7db8df66c1d53d4ab417d30e1eeb6829509404005aca7559e0c9a01f8", func := "loop.example/g01623/laws.FnExactSpread", spec := "fnExactSpread", unfollowed := true, recurses := true, apart := false, narrowed := true }
def FnExactSpreadUptoSaid : Prop := fnExactSpreadUptoRow.holds Try.pinned (OpenSpec.upto fnExactSpreadSpec)

end Rows
end Go.Proofs.Ytolbhpampnjinaa
