/-
  No cell of these rows narrows 'for every input' (looked for: loops, veiled, ifaces, maps, wideKeys, modest, calm, conditions, laid).
  DERIVED. THE GIVEN ROWS OF THIS SEAT. 5 by the template 'for every input the law returns true; each argument reads behind the call as it read before'; 0 by the template 'total and deterministic' (their statements: YtcekicodehlidaaTotals.lean).
  GIVEN WITH THE SEED: the statements are not yours to turn. If you find one false, say at which input.
  Laid BY PROGRAM, IN A SANDBOX (cutbox-rows.mjs): the forced cells as the released guide's own fill.sh prints them over the translation 32ec838cabaa4e86… (all of the seat's roots in one cut). By AI agents, Wed Nov 11 2026. No macro, syntax, notation, axiom, sorry.
-/
import Derived.Test.YtcekicodehlidaaChecked
import GoSem.Claim
import GoSem.ClaimJoined
import GoSem.ClaimMapViews
import Derived.JoinedTies
import Derived.KernelRfl
namespace Go.Proofs.Ytcekicodehlidaa
/- THE CELL 'sum', in the pinned program and in every row, IS THE sha256 OF THE DUMP (.gsa) THAT YtcekicodehlidaaProg.lean LOADS. Nothing in Lean hashes anything: it is a label: what it is worth is what the hold of that sum in a sandbox is worth. -/
noncomputable def Try.pinned : Pinned := { name := "ytcekicodehlidaa", sum := "32ec838cabaa4e866aa7c591d33d7270e4c8725c9738a4f261ecf3f64117fd2e", checked := Try.checked }
namespace Rows
def none {H : Type} : Left H := { results := [], args := [] }

/-- 'laws.FnExactApbStart': WHATEVER THE INPUT: true; the input reads as it did. -/
def fnExactApbStartSpec : ChangeSpec := { name := "fnExactApbStart", fn := fun _ => fun
  | [d] => { results := [.lit (.bool true)], args := [d] }
  | _ => none }
def fnExactApbStartRow : OpenClaim := { program := "ytcekicodehlidaa", sum := "32ec838cabaa4e866aa7c591d33d7270e4c8725c9738a4f261ecf3f64117fd2e", func := "loop.example/g01623/laws.FnExactApbStart", spec := "fnExactApbStart", apart := false }
def FnExactApbStartSaid : Prop := fnExactApbStartRow.holds Try.pinned (OpenSpec.ofChange fnExactApbStartSpec)

/-- ITS FALSE NEIGHBOUR: 'it returns false'. Refute it at one input. -/
def fnExactApbStartWrong : ChangeSpec := { name := "fnExactApbStart", fn := fun _ => fun
  | [d] => { results := [.lit (.bool false)], args := [d] }
  | _ => none }
def FnExactApbStartWrongFalsely : Prop := fnExactApbStartRow.holds Try.pinned (OpenSpec.ofChange fnExactApbStartWrong)

/-- 'laws.FnExactApbOk': WHATEVER THE INPUT: true; the input reads as it did. -/
def fnExactApbOkSpec : ChangeSpec := { name := "fnExactApbOk", fn := fun _ => fun
  | [d] => { results := [.lit (.bool true)], args := [d] }
  | _ => none }
def fnExactApbOkRow : OpenClaim := { program := "ytcekicodehlidaa", sum := "32ec838cabaa4e866aa7c591d33d7270e4c8725c9738a4f261ecf3f64117fd2e", func := "loop.example/g01623/laws.FnExactApbOk", spec := "fnExactApbOk", apart := false }
def FnExactApbOkSaid : Prop := fnExactApbOkRow.holds Try.pinned (OpenSpec.ofChange fnExactApbOkSpec)

/-- ITS FALSE NEIGHBOUR: 'it returns false'. Refute it at one input. -/
def fnExactApbOkWrong : ChangeSpec := { name := "fnExactApbOk", fn := fun _ => fun
  | [d] => { results := [.lit (.bool false)], args := [d] }
  | _ => none }
def FnExactApbOkWrongFalsely : Prop := fnExactApbOkRow.holds Try.pinned (OpenSpec.ofChange fnExactApbOkWrong)

/-- 'laws.FnExactApbTick': WHATEVER THE INPUT: true; the input reads as it did. -/
def fnExactApbTickSpec : ChangeSpec := { name := "fnExactApbTick", fn := fun _ => fun
  | [d] => { results := [.lit (.bool true)], args := [d] }
  | _ => none }
def fnExactApbTickRow : OpenClaim := { program := "ytcekicodehlidaa", sum := "32ec838cabaa4e866aa7c591d33d7270e4c8725c9738a4f261ecf3f64117fd2e", func := "loop.example/g01623/laws.FnExactApbTick", spec := "fnExactApbTick", apart := false }
def FnExactApbTickSaid : Prop := fnExactApbTickRow.holds Try.pinned (OpenSpec.ofChange fnExactApbTickSpec)

/-- ITS FALSE NEIGHBOUR: 'it returns false'. Refute it at one input. -/
def fnExactApbTickWrong : ChangeSpec := { name := "fnExactApbTick", fn := fun _ => fun
  | [d] => { results := [.lit (.bool false)], args := [d] }
  | _ => none }
def FnExactApbTickWrongFalsely : Prop := fnExactApbTickRow.holds Try.pinned (OpenSpec.ofChange fnExactApbTickWrong)

/-- 'laws.FnExactLastCycle': WHATEVER THE INPUT: true; the input reads as it did. -/
def fnExactLastCycleSpec : ChangeSpec := { name := "fnExactLastCycle", fn := fun _ => fun
  | [d1, d2] => { results := [.lit (.bool true)], args := [d1, d2] }
  | _ => none }
def fnExactLastCycleRow : OpenClaim := { program := "ytcekicodehlidaa", sum := "32ec838cabaa4e866aa7c591d33d7270e4c8725c9738a4f261ecf3f64117fd2e", func := "loop.example/g01623/laws.FnExactLastCycle", spec := "fnExactLastCycle", apart := false }
def FnExactLastCycleSaid : Prop := fnExactLastCycleRow.holds Try.pinned (OpenSpec.ofChange fnExactLastCycleSpec)

/-- ITS FALSE NEIGHBOUR: 'it returns false'. Refute it at one input. -/
def fnExactLastCycleWrong : ChangeSpec := { name := "fnExactLastCycle", fn := fun _ => fun
  | [d1, d2] => { results := [.lit (.bool false)], args := [d1, d2] }
  | _ => none }
def FnExactLastCycleWrongFalsely : Prop := fnExactLastCycleRow.holds Try.pinned (OpenSpec.ofChange fnExactLastCycleWrong)

/-- 'laws.FnExactServed': WHATEVER THE INPUT: true; the input reads as it did. -/
def fnExactServedSpec : ChangeSpec := { name := "fnExactServed", fn := fun _ => fun
  | [d1, d2, d3, d4] => { results := [.lit (.bool true)], args := [d1, d2, d3, d4] }
  | _ => none }
def fnExactServedRow : OpenClaim := { program := "ytcekicodehlidaa", sum := "32ec838cabaa4e866aa7c591d33d7270e4c8725c9738a4f261ecf3f64117fd2e", func := "loop.example/g01623/laws.FnExactServed", spec := "fnExactServed", apart := false }
def FnExactServedSaid : Prop := fnExactServedRow.holds Try.pinned (OpenSpec.ofChange fnExactServedSpec)

/-- ITS FALSE NEIGHBOUR: 'it returns false'. Refute it at one input. -/
def fnExactServedWrong : ChangeSpec := { name := "fnExactServed", fn := fun _ => fun
  | [d1, d2, d3, d4] => { results := [.lit (.bool false)], args := [d1, d2, d3, d4] }
  | _ => none }
def FnExactServedWrongFalsely : Prop := fnExactServedRow.holds Try.pinned (OpenSpec.ofChange fnExactServedWrong)

/- THE SECOND FORM. 'bulk': how many values and letters a reading holds, each counted each time it is reached (what is shared counts as often as it is met; a slice's spare places count too). A statement '..UptoSaid' is the law's where the arguments, and the package variables that the reading takes, are together of bulk at most 1048576: NARROWER than '..Said'. Prove '..Said' where nothing that the law and all that it calls make is longer than what came in: it says more and counts as full. Else prove '..UptoSaid'. A law counts once. -/
mutual
def uptoBulk {H : Type} : DataW H → Nat
  | .lit (.string bytes) => bytes.length + 1
  | .lit _ => 1
  | .nil => 1
  | .ptr d => uptoBulk d + 1
  | .slice elems spare => uptoBulkAll elems + uptoBulkAll spare + 1
  | .agg parts => uptoBulkAll parts + 1
  | .iface _ d => uptoBulk d + 1
  | .map entries => uptoBulkEntries entries + 1
  | .held _ => 1
def uptoBulkAll {H : Type} : List (DataW H) → Nat
  | [] => 0
  | d :: r => uptoBulk d + uptoBulkAll r
def uptoBulkEntries {H : Type} : List (Lit × DataW H) → Nat
  | [] => 0
  | x :: r => uptoBulkEntry x + uptoBulkEntries r
def uptoBulkEntry {H : Type} : Lit × DataW H → Nat
  | (.string bytes, d) => bytes.length + uptoBulk d + 1
  | (_, d) => uptoBulk d + 1
 end
def uptoSmall : (H : Type) → List (DataW H) → Bool := fun _ ds => decide (uptoBulkAll ds ≤ 1048576)
def OpenSpec.upto (s : _root_.Go.ChangeSpec) : _root_.Go.OpenSpec := { _root_.Go.OpenSpec.ofChange s with cond := some uptoSmall }

/-- 'laws.FnExactApbStart', WHERE WHAT IT READS IS OF BULK AT MOST 1048576: true; the input reads as it did. -/
def fnExactApbStartUptoRow : OpenClaim := { program := "ytcekicodehlidaa", sum := "32ec838cabaa4e866aa7c591d33d7270e4c8725c9738a4f261ecf3f64117fd2e", func := "loop.example/g01623/laws.FnExactApbStart", spec := "fnExactApbStart", apart := false, narrowed := true }
def FnExactApbStartUptoSaid : Prop := fnExactApbStartUptoRow.holds Try.pinned (OpenSpec.upto fnExactApbStartSpec)

/-- 'laws.FnExactApbOk', WHERE WHAT IT READS IS OF BULK AT MOST 1048576: true; the input reads as it did. -/
def fnExactApbOkUptoRow : OpenClaim := { program := "ytcekicodehlidaa", sum := "32ec838cabaa4e866aa7c591d33d7270e4c8725c9738a4f261ecf3f64117fd2e", func := "loop.example/g01623/laws.FnExactApbOk", spec := "fnExactApbOk", apart := false, narrowed := true }
def FnExactApbOkUptoSaid : Prop := fnExactApbOkUptoRow.holds Try.pinned (OpenSpec.upto fnExactApbOkSpec)

/-- 'laws.FnExactApbTick', WHERE WHAT IT READS IS OF BULK AT MOST 1048576: true; the input reads as it did. -/
def fnExactApbTickUptoRow : OpenClaim := { program := "ytcekicodehlidaa", sum := "32ec838cabaa4e866aa7c591d33d7270e4c8725c9738a4f261ecf3f64117fd2e", func := "loop.example/g01623/laws.FnExactApbTick", spec := "fnExactApbTick", apart := false, narrowed := true }
def FnExactApbTickUptoSaid : Prop := fnExactApbTickUptoRow.holds Try.pinned (OpenSpec.upto fnExactApbTickSpec)

/-- 'laws.FnExactLastCycle', WHERE WHAT IT READS IS OF BULK AT MOST 1048576: true; the input reads as it did. -/
def fnExactLastCycleUptoRow : OpenClaim := { program := "ytcekicodehlidaa", sum := "32ec838cabaa4e866aa7c591d33d7270e4c8725c9738a4f261ecf3f64117fd2e", func := "loop.example/g01623/laws.FnExactLastCycle", spec := "fnExactLastCycle", apart := false, narrowed := true }
def FnExactLastCycleUptoSaid : Prop := fnExactLastCycleUptoRow.holds Try.pinned (OpenSpec.upto fnExactLastCycleSpec)

/-- 'laws.FnExactServed', WHERE WHAT IT READS IS OF BULK AT MOST 1048576: true; the input reads as it did. -/
def fnExactServedUptoRow : OpenClaim := { program := "ytcekicodehlidaa", sum := "32ec838cabaa4e866aa7c591d33d7270e4c8725c9738a4f261ecf3f64117fd2e", func := "loop.example/g01623/laws.FnExactServed", spec := "fnExactServed", apart := false, narrowed := true }
def FnExactServedUptoSaid : Prop := fnExactServedUptoRow.holds Try.pinned (OpenSpec.upto fnExactServedSpec)

end Rows
end Go.Proofs.Ytcekicodehlidaa
