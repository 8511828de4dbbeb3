/-
  No cell of these rows narrows 'for every input' (looked for: loops, veiled, ifaces, maps, wideKeys, modest, calm, conditions, laid).
  DERIVED. THE GIVEN ROWS OF THIS SEAT. 10 by the template 'for every input the law returns true; each argument reads behind the call as it read before'; 0 by the template 'total and deterministic' (their statements: YtciimjnpdmmfnaaGreatTotals.lean).
  GIVEN WITH THE SEED: the statements are not yours to turn. If you find one false, say at which input.
  Laid BY PROGRAM, IN A SANDBOX (cutbox-rows.mjs): the forced cells as the released guide's own fill.sh prints them over the translation 5017549e881e16b2… (all of the seat's roots in one cut). By AI agents, Wed Nov 11 2026. No macro, syntax, notation, axiom, sorry.
-/
import Derived.Test.YtciimjnpdmmfnaaGreatChecked
import GoSem.Claim
import GoSem.ClaimJoined
import GoSem.ClaimMapViews
import Derived.JoinedTies
import Derived.KernelRfl
namespace Go.Proofs.YtciimjnpdmmfnaaGreat
/- THE CELL 'sum', in the pinned program and in every row, IS THE sha256 OF THE DUMP (.gsa) THAT YtciimjnpdmmfnaaGreatProg.lean LOADS. Nothing in Lean hashes anything: it is a label: what it is worth is what the hold of that sum in a sandbox is worth. -/
noncomputable def Tryz.pinned : Pinned := { name := "ytciimjnpdmmfnaagreat", sum := "5017549e881e16b24188301fac1d754f3973ca644ab537143de1934726965233", checked := Tryz.checked }
namespace Rows
def none {H : Type} : Left H := { results := [], args := [] }

/-- 'laws.FnAtMost': WHATEVER THE INPUT: true; the input reads as it did. -/
def fnAtMostSpec : ChangeSpec := { name := "fnAtMost", fn := fun _ => fun
  | [d] => { results := [.lit (.bool true)], args := [d] }
  | _ => none }
def fnAtMostRow : OpenClaim := { program := "ytciimjnpdmmfnaagreat", sum := "5017549e881e16b24188301fac1d754f3973ca644ab537143de1934726965233", func := "loop.example/g01623/laws.FnAtMost", spec := "fnAtMost", unfollowed := true, recurses := true, apart := false }
def FnAtMostSaid : Prop := fnAtMostRow.holds Tryz.pinned (OpenSpec.ofChange fnAtMostSpec)

/-- ITS FALSE NEIGHBOUR: 'it returns false'. Refute it at one input. -/
def fnAtMostWrong : ChangeSpec := { name := "fnAtMost", fn := fun _ => fun
  | [d] => { results := [.lit (.bool false)], args := [d] }
  | _ => none }
def FnAtMostWrongFalsely : Prop := fnAtMostRow.holds Tryz.pinned (OpenSpec.ofChange fnAtMostWrong)

/-- 'laws.FnLocked': WHATEVER THE INPUT: true; the input reads as it did. -/
def fnLockedSpec : ChangeSpec := { name := "fnLocked", fn := fun _ => fun
  | [d] => { results := [.lit (.bool true)], args := [d] }
  | _ => none }
def fnLockedRow : OpenClaim := { program := "ytciimjnpdmmfnaagreat", sum := "5017549e881e16b24188301fac1d754f3973ca644ab537143de1934726965233", func := "loop.example/g01623/laws.FnLocked", spec := "fnLocked", unfollowed := true, recurses := true, apart := false }
def FnLockedSaid : Prop := fnLockedRow.holds Tryz.pinned (OpenSpec.ofChange fnLockedSpec)

/-- ITS FALSE NEIGHBOUR: 'it returns false'. Refute it at one input. -/
def fnLockedWrong : ChangeSpec := { name := "fnLocked", fn := fun _ => fun
  | [d] => { results := [.lit (.bool false)], args := [d] }
  | _ => none }
def FnLockedWrongFalsely : Prop := fnLockedRow.holds Tryz.pinned (OpenSpec.ofChange fnLockedWrong)

/-- 'laws.FnParts': WHATEVER THE INPUT: true; the input reads as it did. -/
def fnPartsSpec : ChangeSpec := { name := "fnParts", fn := fun _ => fun
  | [d] => { results := [.lit (.bool true)], args := [d] }
  | _ => none }
def fnPartsRow : OpenClaim := { program := "ytciimjnpdmmfnaagreat", sum := "5017549e881e16b24188301fac1d754f3973ca644ab537143de1934726965233", func := "loop.example/g01623/laws.FnParts", spec := "fnParts", unfollowed := true, recurses := true, apart := false }
def FnPartsSaid : Prop := fnPartsRow.holds Tryz.pinned (OpenSpec.ofChange fnPartsSpec)

/-- ITS FALSE NEIGHBOUR: 'it returns false'. Refute it at one input. -/
def fnPartsWrong : ChangeSpec := { name := "fnParts", fn := fun _ => fun
  | [d] => { results := [.lit (.bool false)], args := [d] }
  | _ => none }
def FnPartsWrongFalsely : Prop := fnPartsRow.holds Tryz.pinned (OpenSpec.ofChange fnPartsWrong)

/-- 'laws.FnStats': WHATEVER THE INPUT: true; the input reads as it did. -/
def fnStatsSpec : ChangeSpec := { name := "fnStats", fn := fun _ => fun
  | [d] => { results := [.lit (.bool true)], args := [d] }
  | _ => none }
def fnStatsRow : OpenClaim := { program := "ytciimjnpdmmfnaagreat", sum := "5017549e881e16b24188301fac1d754f3973ca644ab537143de1934726965233", func := "loop.example/g01623/laws.FnStats", spec := "fnStats", unfollowed := true, recurses := true, apart := false }
def FnStatsSaid : Prop := fnStatsRow.holds Tryz.pinned (OpenSpec.ofChange fnStatsSpec)

/-- ITS FALSE NEIGHBOUR: 'it returns false'. Refute it at one input. -/
def fnStatsWrong : ChangeSpec := { name := "fnStats", fn := fun _ => fun
  | [d] => { results := [.lit (.bool false)], args := [d] }
  | _ => none }
def FnStatsWrongFalsely : Prop := fnStatsRow.holds Tryz.pinned (OpenSpec.ofChange fnStatsWrong)

/-- 'laws.FnIdle': WHATEVER THE INPUT: true; the input reads as it did. -/
def fnIdleSpec : ChangeSpec := { name := "fnIdle", fn := fun _ => fun
  | [d] => { results := [.lit (.bool true)], args := [d] }
  | _ => none }
def fnIdleRow : OpenClaim := { program := "ytciimjnpdmmfnaagreat", sum := "5017549e881e16b24188301fac1d754f3973ca644ab537143de1934726965233", func := "loop.example/g01623/laws.FnIdle", spec := "fnIdle", unfollowed := true, recurses := true, apart := false }
def FnIdleSaid : Prop := fnIdleRow.holds Tryz.pinned (OpenSpec.ofChange fnIdleSpec)

/-- ITS FALSE NEIGHBOUR: 'it returns false'. Refute it at one input. -/
def fnIdleWrong : ChangeSpec := { name := "fnIdle", fn := fun _ => fun
  | [d] => { results := [.lit (.bool false)], args := [d] }
  | _ => none }
def FnIdleWrongFalsely : Prop := fnIdleRow.holds Tryz.pinned (OpenSpec.ofChange fnIdleWrong)

/-- 'laws.FnNoSlave': WHATEVER THE INPUT: true; the input reads as it did. -/
def fnNoSlaveSpec : ChangeSpec := { name := "fnNoSlave", fn := fun _ => fun
  | [d] => { results := [.lit (.bool true)], args := [d] }
  | _ => none }
def fnNoSlaveRow : OpenClaim := { program := "ytciimjnpdmmfnaagreat", sum := "5017549e881e16b24188301fac1d754f3973ca644ab537143de1934726965233", func := "loop.example/g01623/laws.FnNoSlave", spec := "fnNoSlave", unfollowed := true, recurses := true, apart := false }
def FnNoSlaveSaid : Prop := fnNoSlaveRow.holds Tryz.pinned (OpenSpec.ofChange fnNoSlaveSpec)

/-- ITS FALSE NEIGHBOUR: 'it returns false'. Refute it at one input. -/
def fnNoSlaveWrong : ChangeSpec := { name := "fnNoSlave", fn := fun _ => fun
  | [d] => { results := [.lit (.bool false)], args := [d] }
  | _ => none }
def FnNoSlaveWrongFalsely : Prop := fnNoSlaveRow.holds Tryz.pinned (OpenSpec.ofChange fnNoSlaveWrong)

/-- 'laws.FnBridge': WHATEVER THE INPUT: true; the input reads as it did. -/
def fnBridgeSpec : ChangeSpec := { name := "fnBridge", fn := fun _ => fun
  | [d] => { results := [.lit (.bool true)], args := [d] }
  | _ => none }
def fnBridgeRow : OpenClaim := { program := "ytciimjnpdmmfnaagreat", sum := "5017549e881e16b24188301fac1d754f3973ca644ab537143de1934726965233", func := "loop.example/g01623/laws.FnBridge", spec := "fnBridge", unfollowed := true, recurses := true, apart := false }
def FnBridgeSaid : Prop := fnBridgeRow.holds Tryz.pinned (OpenSpec.ofChange fnBridgeSpec)

/-- ITS FALSE NEIGHBOUR: 'it returns false'. Refute it at one input. -/
def fnBridgeWrong : ChangeSpec := { name := "fnBridge", fn := fun _ => fun
  | [d] => { results := [.lit (.bool false)], args := [d] }
  | _ => none }
def FnBridgeWrongFalsely : Prop := fnBridgeRow.holds Tryz.pinned (OpenSpec.ofChange fnBridgeWrong)

/-- 'laws.FnTop': WHATEVER THE INPUT: true; the input reads as it did. -/
def fnTopSpec : ChangeSpec := { name := "fnTop", fn := fun _ => fun
  | [d] => { results := [.lit (.bool true)], args := [d] }
  | _ => none }
def fnTopRow : OpenClaim := { program := "ytciimjnpdmmfnaagreat", sum := "5017549e881e16b24188301fac1d754f3973ca644ab537143de1934726965233", func := "loop.example/g01623/laws.FnTop", spec := "fnTop", unfollowed := true, recurses := true, apart := false }
def FnTopSaid : Prop := fnTopRow.holds Tryz.pinned (OpenSpec.ofChange fnTopSpec)

/-- ITS FALSE NEIGHBOUR: 'it returns false'. Refute it at one input. -/
def fnTopWrong : ChangeSpec := { name := "fnTop", fn := fun _ => fun
  | [d] => { results := [.lit (.bool false)], args := [d] }
  | _ => none }
def FnTopWrongFalsely : Prop := fnTopRow.holds Tryz.pinned (OpenSpec.ofChange fnTopWrong)

/-- 'laws.FnOneMaster': WHATEVER THE INPUT: true; the input reads as it did. -/
def fnOneMasterSpec : ChangeSpec := { name := "fnOneMaster", fn := fun _ => fun
  | [d] => { results := [.lit (.bool true)], args := [d] }
  | _ => none }
def fnOneMasterRow : OpenClaim := { program := "ytciimjnpdmmfnaagreat", sum := "5017549e881e16b24188301fac1d754f3973ca644ab537143de1934726965233", func := "loop.example/g01623/laws.FnOneMaster", spec := "fnOneMaster", unfollowed := true, recurses := true, apart := false }
def FnOneMasterSaid : Prop := fnOneMasterRow.holds Tryz.pinned (OpenSpec.ofChange fnOneMasterSpec)

/-- ITS FALSE NEIGHBOUR: 'it returns false'. Refute it at one input. -/
def fnOneMasterWrong : ChangeSpec := { name := "fnOneMaster", fn := fun _ => fun
  | [d] => { results := [.lit (.bool false)], args := [d] }
  | _ => none }
def FnOneMasterWrongFalsely : Prop := fnOneMasterRow.holds Tryz.pinned (OpenSpec.ofChange fnOneMasterWrong)

/-- 'laws.FnBound': WHATEVER THE INPUT: true; the input reads as it did. -/
def fnBoundSpec : ChangeSpec := { name := "fnBound", fn := fun _ => fun
  | [d] => { results := [.lit (.bool true)], args := [d] }
  | _ => none }
def fnBoundRow : OpenClaim := { program := "ytciimjnpdmmfnaagreat", sum := "5017549e881e16b24188301fac1d754f3973ca644ab537143de1934726965233", func := "loop.example/g01623/laws.FnBound", spec := "fnBound", unfollowed := true, recurses := true, apart := false }
def FnBoundSaid : Prop := fnBoundRow.holds Tryz.pinned (OpenSpec.ofChange fnBoundSpec)

/-- ITS FALSE NEIGHBOUR: 'it returns false'. Refute it at one input. -/
def fnBoundWrong : ChangeSpec := { name := "fnBound", fn := fun _ => fun
  | [d] => { results := [.lit (.bool false)], args := [d] }
  | _ => none }
def FnBoundWrongFalsely : Prop := fnBoundRow.holds Tryz.pinned (OpenSpec.ofChange fnBoundWrong)

/- THE SECOND FORM. 'bulk': how many values and letters a reading holds, each counted each time it is reached (what is shared counts as often as it is met; a slice's spare places count too). A statement '..UptoSaid' is the law's where the arguments, and the package variables that the reading takes, are together of bulk at most 1048576: NARROWER than '..Said'. Prove '..Said' where nothing that the law and all that it calls make is longer than what came in: it says more and counts as full. Else prove '..UptoSaid'. A law counts once. -/
mutual
def uptoBulk {H : Type} : DataW H → Nat
  | .lit (.string bytes) => bytes.length + 1
  | .lit _ => 1
  | .nil => 1
  | .ptr d => uptoBulk d + 1
  | .slice elems spare => uptoBulkAll elems + uptoBulkAll spare + 1
  | .agg parts => uptoBulkAll parts + 1
  | .iface _ d => uptoBulk d + 1
  | .map entries => uptoBulkEntries entries + 1
  | .held _ => 1
def uptoBulkAll {H : Type} : List (DataW H) → Nat
  | [] => 0
  | d :: r => uptoBulk d + uptoBulkAll r
def uptoBulkEntries {H : Type} : List (Lit × DataW H) → Nat
  | [] => 0
  | x :: r => uptoBulkEntry x + uptoBulkEntries r
def uptoBulkEntry {H : Type} : Lit × DataW H → Nat
  | (.string bytes, d) => bytes.length + uptoBulk d + 1
  | (_, d) => uptoBulk d + 1
 end
def uptoSmall : (H : Type) → List (DataW H) → Bool := fun _ ds => decide (uptoBulkAll ds ≤ 1048576)
def OpenSpec.upto (s : _root_.Go.ChangeSpec) : _root_.Go.OpenSpec := { _root_.Go.OpenSpec.ofChange s with cond := some uptoSmall }

/-- 'laws.FnAtMost', WHERE WHAT IT READS IS OF BULK AT MOST 1048576: true; the input reads as it did. -/
def fnAtMostUptoRow : OpenClaim := { program := "ytciimjnpdmmfnaagreat", sum := "5017549e881e16b24188301fac1d754f3973ca644ab537143de1934726965233", func := "loop.example/g01623/laws.FnAtMost", spec := "fnAtMost", unfollowed := true, recurses := true, apart := false, narrowed := true }
def FnAtMostUptoSaid : Prop := fnAtMostUptoRow.holds Tryz.pinned (OpenSpec.upto fnAtMostSpec)

/-- 'laws.FnLocked', WHERE WHAT IT READS IS OF BULK AT MOST 1048576: true; the input reads as it did. -/
def fnLockedUptoRow : OpenClaim := { program := "ytciimjnpdmmfnaagreat", sum := "5017549e881e16b24188301fac1d754f3973ca644ab537143de1934726965233", func := "loop.example/g01623/laws.FnLocked", spec := "fnLocked", unfollowed := true, recurses := true, apart := false, narrowed := true }
def FnLockedUptoSaid : Prop := fnLockedUptoRow.holds Tryz.pinned (OpenSpec.upto fnLockedSpec)

/-- 'laws.FnParts', WHERE WHAT IT READS IS OF BULK AT MOST 1048576: true; the input reads as it did. -/
def fnPartsUptoRow : OpenClaim := { program := "ytciimjnpdmmfnaagreat", sum := "5017549e881e16b24188301fac1d754f3973ca644ab537143de1934726965233", func := "loop.example/g01623/laws.FnParts", spec := "fnParts", unfollowed := true, recurses := true, apart := false, narrowed := true }
def FnPartsUptoSaid : Prop := fnPartsUptoRow.holds Tryz.pinned (OpenSpec.upto fnPartsSpec)

/-- 'laws.FnStats', WHERE WHAT IT READS IS OF BULK AT MOST 1048576: true; the input reads as it did. -/
def fnStatsUptoRow : OpenClaim := { program := "ytciimjnpdmmfnaagreat", sum := "5017549e881e16b24188301fac1d754f3973ca644ab537143de1934726965233", func := "loop.example/g01623/laws.FnStats", spec := "fnStats", unfollowed := true, recurses := true, apart := false, narrowed := true }
def FnStatsUptoSaid : Prop := fnStatsUptoRow.holds Tryz.pinned (OpenSpec.upto fnStatsSpec)

/-- 'laws.FnIdle', WHERE WHAT IT READS IS OF BULK AT MOST 1048576: true; the input reads as it did. -/
def fnIdleUptoRow : OpenClaim := { program := "ytciimjnpdmmfnaagreat", sum := "5017549e881e16b24188301fac1d754f3973ca644ab537143de1934726965233", func := "loop.example/g01623/laws.FnIdle", spec := "fnIdle", unfollowed := true, recurses := true, apart := false, narrowed := true }
def FnIdleUptoSaid : Prop := fnIdleUptoRow.holds Tryz.pinned (OpenSpec.upto fnIdleSpec)

/-- 'laws.FnNoSlave', WHERE WHAT IT READS IS OF BULK AT MOST 1048576: true; the input reads as it did. -/
def fnNoSlaveUptoRow : OpenClaim := { program := "ytciimjnpdmmfnaagreat", sum := "5017549e881e16b24188301fac1d754f3973ca644ab537143de1934726965233", func := "loop.example/g01623/laws.FnNoSlave", spec := "fnNoSlave", unfollowed := true, recurses := true, apart := false, narrowed := true }
def FnNoSlaveUptoSaid : Prop := fnNoSlaveUptoRow.holds Tryz.pinned (OpenSpec.upto fnNoSlaveSpec)

/-- 'laws.FnBridge', WHERE WHAT IT READS IS OF BULK AT MOST 1048576: true; the input reads as it did. -/
def fnBridgeUptoRow : OpenClaim := { program := "ytciimjnpdmmfnaagreat", sum := "5017549e881e16b24188301fac1d754f3973ca644ab537143de1934726965233", func := "loop.example/g01623/laws.FnBridge", spec := "fnBridge", unfollowed := true, recurses := true, apart := false, narrowed := true }
def FnBridgeUptoSaid : Prop := fnBridgeUptoRow.holds Tryz.pinned (OpenSpec.upto fnBridgeSpec)

/-- 'laws.FnTop', WHERE WHAT IT READS IS OF BULK AT MOST 1048576: true; the input reads as it did. -/
def fnTopUptoRow : OpenClaim := { program := "ytciimjnpdmmfnaagreat", sum := "5017549e881e16b24188301fac1d754f3973ca644ab537143de1934726965233", func := "loop.example/g01623/laws.FnTop", spec := "fnTop", unfollowed := true, recurses := true, apart := false, narrowed := true }
def FnTopUptoSaid : Prop := fnTopUptoRow.holds Tryz.pinned (OpenSpec.upto fnTopSpec)

/-- 'laws.FnOneMaster', WHERE WHAT IT READS IS OF BULK AT MOST 1048576: true; the input reads as it did. -/
def fnOneMasterUptoRow : OpenClaim := { program := "ytciimjnpdmmfnaagreat", sum := "5017549e881e16b24188301fac1d754f3973ca644ab537143de1934726965233", func := "loop.example/g01623/laws.FnOneMaster", spec := "fnOneMaster", unfollowed := true, recurses := true, apart := false, narrowed := true }
def FnOneMasterUptoSaid : Prop := fnOneMasterUptoRow.holds Tryz.pinned (OpenSpec.upto fnOneMasterSpec)

/-- 'laws.FnBound', WHERE WHAT IT READS IS OF BULK AT MOST 1048576: true; the input reads as it did. -/
def fnBoundUptoRow : OpenClaim := { program := "ytciimjnpdmmfnaagreat", sum := "5017549e881e16b24188301fac1d754f3973ca644ab537143de1934726965233", func := "loop.example/g01623/laws.FnBound", spec := "fnBound", unfollowed := true, recurses := true, apart := false, narrowed := true }
def FnBoundUptoSaid : Prop := fnBoundUptoRow.holds Tryz.pinned (OpenSpec.upto fnBoundSpec)

end Rows
end Go.Proofs.YtciimjnpdmmfnaaGreat
