/-
  No cell of these rows narrows 'for every input' (looked for: loops, veiled, ifaces, maps, wideKeys, modest, calm, conditions, laid).
  DERIVED. THE GIVEN ROWS OF THIS SEAT. 5 by the template 'for every input the law returns true; each argument reads behind the call as it read before'; 0 by the template 'total and deterministic' (their statements: YtagdmghmblplbaaGreatTotals.lean).
  GIVEN WITH THE SEED: the statements are not yours to turn. If you find one false, say at which input.
  Laid BY PROGRAM, IN A SANDBOX (cutbox-rows.mjs): the forced cells as the released guide's own fill.sh prints them over the translation 0bda0f1e895b3e0b… (all of the seat's roots in one cut). By AI agents, Wed Nov 11 2026. No macro, syntax, notation, axiom, sorry.
-/
import Derived.Test.YtagdmghmblplbaaGreatChecked
import GoSem.Claim
import GoSem.ClaimJoined
import GoSem.ClaimMapViews
import Derived.JoinedTies
import Derived.KernelRfl
namespace Go.Proofs.YtagdmghmblplbaaGreat
/- THE CELL 'sum', in the pinned program and in every row, IS THE sha256 OF THE DUMP (.gsa) THAT YtagdmghmblplbaaGreatProg.lean LOADS. Nothing in Lean hashes anything: it is a label: what it is worth is what the hold of that sum in a sandbox is worth. -/
noncomputable def Tryz.pinned : Pinned := { name := "ytagdmghmblplbaagreat", sum := "0bda0f1e895b3e0b9b1cb50acf43298e4c57cadb15541d17e588f6bddf751220", checked := Tryz.checked }
namespace Rows
def none {H : Type} : Left H := { results := [], args := [] }

/-- 'laws.FnExactSolo': WHATEVER THE INPUT: true; the input reads as it did. -/
def fnExactSoloSpec : ChangeSpec := { name := "fnExactSolo", fn := fun _ => fun
  | [d1, d2] => { results := [.lit (.bool true)], args := [d1, d2] }
  | _ => none }
def fnExactSoloRow : OpenClaim := { program := "ytagdmghmblplbaagreat", sum := "0bda0f1e895b3e0b9b1cb50acf43298e4c57cadb15541d17e588f6bddf751220", func := "loop.example/g01623/laws.FnExactSolo", spec := "fnExactSolo", unfollowed := true, recurses := true, apart := false }
def FnExactSoloSaid : Prop := fnExactSoloRow.holds Tryz.pinned (OpenSpec.ofChange fnExactSoloSpec)

/-- ITS FALSE NEIGHBOUR: 'it returns false'. Refute it at one input. -/
def fnExactSoloWrong : ChangeSpec := { name := "fnExactSolo", fn := fun _ => fun
  | [d1, d2] => { results := [.lit (.bool false)], args := [d1, d2] }
  | _ => none }
def FnExactSoloWrongFalsely : Prop := fnExactSoloRow.holds Tryz.pinned (OpenSpec.ofChange fnExactSoloWrong)

/-- 'laws.FnExactPlay': WHATEVER THE INPUT: true; the input reads as it did. -/
def fnExactPlaySpec : ChangeSpec := { name := "fnExactPlay", fn := fun _ => fun
  | [d1, d2, d3] => { results := [.lit (.bool true)], args := [d1, d2, d3] }
  | _ => none }
def fnExactPlayRow : OpenClaim := { program := "ytagdmghmblplbaagreat", sum := "0bda0f1e895b3e0b9b1cb50acf43298e4c57cadb15541d17e588f6bddf751220", func := "loop.example/g01623/laws.FnExactPlay", spec := "fnExactPlay", unfollowed := true, recurses := true, apart := false }
def FnExactPlaySaid : Prop := fnExactPlayRow.holds Tryz.pinned (OpenSpec.ofChange fnExactPlaySpec)

/-- ITS FALSE NEIGHBOUR: 'it returns false'. Refute it at one input. -/
def fnExactPlayWrong : ChangeSpec := { name := "fnExactPlay", fn := fun _ => fun
  | [d1, d2, d3] => { results := [.lit (.bool false)], args := [d1, d2, d3] }
  | _ => none }
def FnExactPlayWrongFalsely : Prop := fnExactPlayRow.holds Tryz.pinned (OpenSpec.ofChange fnExactPlayWrong)

/-- 'laws.FnExactBusStep': WHATEVER THE INPUT: true; the input reads as it did. -/
def fnExactBusStepSpec : ChangeSpec := { name := "fnExactBusStep", fn := fun _ => fun
  | [d1, d2] => { results := [.lit (.bool true)], args := [d1, d2] }
  | _ => none }
def fnExactBusStepRow : OpenClaim := { program := "ytagdmghmblplbaagreat", sum := "0bda0f1e895b3e0b9b1cb50acf43298e4c57cadb15541d17e588f6bddf751220", func := "loop.example/g01623/laws.FnExactBusStep", spec := "fnExactBusStep", unfollowed := true, recurses := true, apart := false }
def FnExactBusStepSaid : Prop := fnExactBusStepRow.holds Tryz.pinned (OpenSpec.ofChange fnExactBusStepSpec)

/-- ITS FALSE NEIGHBOUR: 'it returns false'. Refute it at one input. -/
def fnExactBusStepWrong : ChangeSpec := { name := "fnExactBusStep", fn := fun _ => fun
  | [d1, d2] => { results := [.lit (.bool false)], args := [d1, d2] }
  | _ => none }
def FnExactBusStepWrongFalsely : Prop := fnExactBusStepRow.holds Tryz.pinned (OpenSpec.ofChange fnExactBusStepWrong)

/-- 'laws.FnExactRunOut': WHATEVER THE INPUT: true; the input reads as it did. -/
def fnExactRunOutSpec : ChangeSpec := { name := "fnExactRunOut", fn := fun _ => fun
  | [d1, d2] => { results := [.lit (.bool true)], args := [d1, d2] }
  | _ => none }
def fnExactRunOutRow : OpenClaim := { program := "ytagdmghmblplbaagreat", sum := "0bda0f1e895b3e0b9b1cb50acf43298e4c57cadb15541d17e588f6bddf751220", func := "loop.example/g01623/laws.FnExactRunOut", spec := "fnExactRunOut", unfollowed := true, recurses := true, apart := false }
def FnExactRunOutSaid : Prop := fnExactRunOutRow.holds Tryz.pinned (OpenSpec.ofChange fnExactRunOutSpec)

/-- ITS FALSE NEIGHBOUR: 'it returns false'. Refute it at one input. -/
def fnExactRunOutWrong : ChangeSpec := { name := "fnExactRunOut", fn := fun _ => fun
  | [d1, d2] => { results := [.lit (.bool false)], args := [d1, d2] }
  | _ => none }
def FnExactRunOutWrongFalsely : Prop := fnExactRunOutRow.holds Tryz.pinned (OpenSpec.ofChange fnExactRunOutWrong)

/-- 'laws.FnExactBusRun': WHATEVER THE INPUT: true; the input reads as it did. -/
def fnExactBusRunSpec : ChangeSpec := { name := "fnExactBusRun", fn := fun _ => fun
  | [d1, d2, d3] => { results := [.lit (.bool true)], args := [d1, d2, d3] }
  | _ => none }
def fnExactBusRunRow : OpenClaim := { program := "ytagdmghmblplbaagreat", sum := "0bda0f1e895b3e0b9b1cb50acf43298e4c57cadb15541d17e588f6bddf751220", func := "loop.example/g01623/laws.FnExactBusRun", spec := "fnExactBusRun", unfollowed := true, recurses := true, apart := false }
def FnExactBusRunSaid : Prop := fnExactBusRunRow.holds Tryz.pinned (OpenSpec.ofChange fnExactBusRunSpec)

/-- ITS FALSE NEIGHBOUR: 'it returns false'. Refute it at one input. -/
def fnExactBusRunWrong : ChangeSpec := { name := "fnExactBusRun", fn := fun _ => fun
  | [d1, d2, d3] => { results := [.lit (.bool false)], args := [d1, d2, d3] }
  | _ => none }
def FnExactBusRunWrongFalsely : Prop := fnExactBusRunRow.holds Tryz.pinned (OpenSpec.ofChange fnExactBusRunWrong)

/- THE SECOND FORM. 'bulk': how many values and letters a reading holds, each counted each time it is reached (what is shared counts as often as it is met; a slice's spare places count too). A statement '..UptoSaid' is the law's where the arguments, and the package variables that the reading takes, are together of bulk at most 1048576: NARROWER than '..Said'. Prove '..Said' where nothing that the law and all that it calls make is longer than what came in: it says more and counts as full. Else prove '..UptoSaid'. A law counts once. -/
mutual
def uptoBulk {H : Type} : DataW H → Nat
  | .lit (.string bytes) => bytes.length + 1
  | .lit _ => 1
  | .nil => 1
  | .ptr d => uptoBulk d + 1
  | .slice elems spare => uptoBulkAll elems + uptoBulkAll spare + 1
  | .agg parts => uptoBulkAll parts + 1
  | .iface _ d => uptoBulk d + 1
  | .map entries => uptoBulkEntries entries + 1
  | .held _ => 1
def uptoBulkAll {H : Type} : List (DataW H) → Nat
  | [] => 0
  | d :: r => uptoBulk d + uptoBulkAll r
def uptoBulkEntries {H : Type} : List (Lit × DataW H) → Nat
  | [] => 0
  | x :: r => uptoBulkEntry x + uptoBulkEntries r
def uptoBulkEntry {H : Type} : Lit × DataW H → Nat
  | (.string bytes, d) => bytes.length + uptoBulk d + 1
  | (_, d) => uptoBulk d + 1
 end
def uptoSmall : (H : Type) → List (DataW H) → Bool := fun _ ds => decide (uptoBulkAll ds ≤ 1048576)
def OpenSpec.upto (s : _root_.Go.ChangeSpec) : _root_.Go.OpenSpec := { _root_.Go.OpenSpec.ofChange s with cond := some uptoSmall }

/-- 'laws.FnExactSolo', WHERE WHAT IT READS IS OF BULK AT MOST 1048576: true; the input reads as it did. -/
def fnExactSoloUptoRow : OpenClaim := { program := "ytagdmghmblplbaagreat", sum := "0bda0f1e895b3e0b9b1cb50acf43298e4c57cadb15541d17e588f6bddf751220", func := "loop.example/g01623/laws.FnExactSolo", spec := "fnExactSolo", unfollowed := true, recurses := true, apart := false, narrowed := true }
def FnExactSoloUptoSaid : Prop := fnExactSoloUptoRow.holds Tryz.pinned (OpenSpec.upto fnExactSoloSpec)

/-- 'laws.FnExactPlay', WHERE WHAT IT READS IS OF BULK AT MOST 1048576: true; the input reads as it did. -/
def fnExactPlayUptoRow : OpenClaim := { program := "ytagdmghmblplbaagreat", sum := "0bda0f1e895b3e0b9b1cb50acf43298e4c57cadb15541d17e588f6bddf751220", func := "loop.example/g01623/laws.FnExactPlay", spec := "fnExactPlay", unfollowed := true, recurses := true, apart := false, narrowed := true }
def FnExactPlayUptoSaid : Prop := fnExactPlayUptoRow.holds Tryz.pinned (OpenSpec.upto fnExactPlaySpec)

/-- 'laws.FnExactBusStep', WHERE WHAT IT READS IS OF BULK AT MOST 1048576: true; the input reads as it did. -/
def fnExactBusStepUptoRow : OpenClaim := { program := "ytagdmghmblplbaagreat", sum := "0bda0f1e895b3e0b9b1cb50acf43298e4c57cadb15541d17e588f6bddf751220", func := "loop.example/g01623/laws.FnExactBusStep", spec := "fnExactBusStep", unfollowed := true, recurses := true, apart := false, narrowed := true }
def FnExactBusStepUptoSaid : Prop := fnExactBusStepUptoRow.holds Tryz.pinned (OpenSpec.upto fnExactBusStepSpec)

/-- 'laws.FnExactRunOut', WHERE WHAT IT READS IS OF BULK AT MOST 1048576: true; the input reads as it did. -/
def fnExactRunOutUptoRow : OpenClaim := { program := "ytagdmghmblplbaagreat", sum := "0bda0f1e895b3e0b9b1cb50acf43298e4c57cadb15541d17e588f6bddf751220", func := "loop.example/g01623/laws.FnExactRunOut", spec := "fnExactRunOut", unfollowed := true, recurses := true, apart := false, narrowed := true }
def FnExactRunOutUptoSaid : Prop := fnExactRunOutUptoRow.holds Tryz.pinned (OpenSpec.upto fnExactRunOutSpec)

/-- 'laws.FnExactBusRun', WHERE WHAT IT READS IS OF BULK AT MOST 1048576: true; the input reads as it did. -/
def fnExactBusRunUptoRow : OpenClaim := { program := "ytagdmghmblplbaagreat", sum := "0bda0f1e895b3e0b9b1cb50acf43298e4c57cadb15541d17e588f6bddf751220", func := "loop.example/g01623/laws.FnExactBusRun", spec := "fnExactBusRun", unfollowed := true, recurses := true, apart := false, narrowed := true }
def FnExactBusRunUptoSaid : Prop := fnExactBusRunUptoRow.holds Tryz.pinned (OpenSpec.upto fnExactBusRunSpec)

end Rows
end Go.Proofs.YtagdmghmblplbaaGreat
