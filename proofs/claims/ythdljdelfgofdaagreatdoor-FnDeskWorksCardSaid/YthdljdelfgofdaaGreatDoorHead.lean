/- What a row asks of the whole program: facts, each by itself. No condition. -/
import Derived.Test.YthdljdelfgofdaaGreatDoorRows
import Derived.JoinedOf
namespace Go.Proofs.YthdljdelfgofdaaGreatDoor.Head
open Go Go.Proofs
set_option linter.unusedSimpArgs false
def heads : List Char := [104, 97, 114, 110, 101, 115, 115, 32, 51, 51, 97, 50, 101, 98, 57, 51, 53, 102, 102, 99, 52, 97, 55, 51, 102, 53, 97, 97, 48, 100, 52, 99, 98, 48, 57, 101, 98, 102, 100, 97, 98, 56, 98, 52, 55, 99, 54, 99, 52, 100, 98, 55, 52, 102, 97, 102, 97, 100, 55, 99, 98, 101, 51, 55, 97, 51, 99, 56, 56, 100, 51, 54, 32, 99, 117, 116, 32, 97, 116, 32, 108, 111, 111, 112, 46, 101, 120, 97, 109, 112, 108, 101, 47, 103, 48, 49, 54, 50, 51, 47, 108, 97, 119, 115, 46, 70, 110, 69, 120, 97, 99, 116, 82, 101, 97, 100, 83, 99, 114, 105, 112, 116, 32, 108, 111, 111, 112, 46, 101, 120, 97, 109, 112, 108, 101, 47, 103, 48, 49, 54, 50, 51, 47, 108, 97, 119, 115, 46, 70, 110, 68, 101, 115, 107, 87, 111, 114, 107, 115, 32, 108, 111, 111, 112, 46, 101, 120, 97, 109, 112, 108, 101, 47, 103, 48, 49, 54, 50, 51, 47, 108, 97, 119, 115, 46, 70, 110, 69, 120, 97, 99, 116, 68, 101, 115, 107, 32, 108, 111, 111, 112, 46, 101, 120, 97, 109, 112, 108, 101, 47, 103, 48, 49, 54, 50, 51, 47, 108, 97, 119, 115, 46, 70, 110, 68, 101, 115, 107].map Char.ofNat
def behind : List (List Char) := (behindMainWord (wordsSigns heads)).tail
theorem ini : Tryz.prog.initOrder.toList = heads := by
  have h : Tryz.prog.initOrder = String.ofList heads := by kernel_rfl
  rw [h, String.toList_ofList]
theorem bhd : behindMainWord (wordsSigns heads) = "cut".toList :: behind := by kernel_rfl
theorem make_of {P : Program} (h : P.initOrder.toList = heads) : P.make = some .cut := by
  have a : ("cut".toList == "gc".toList) = false := by kernel_rfl
  have b : ("cut".toList == "spec".toList) = false := by kernel_rfl
  unfold Program.make
  rw [h, bhd]
  simp only [a, b, Bool.or_self, Bool.false_eq_true, if_false, beq_self_eq_true, Bool.true_or, if_true]
theorem strip1 : (stripLifts liftWords ("cut".toList :: behind)).1 = [] := by kernel_rfl
theorem strip2 : ((stripLifts liftWords ("cut".toList :: behind)).2.head? == some "cut".toList) = true := by kernel_rfl
theorem enter_of {P : Program} (h : P.initOrder.toList = heads) (l : P.laysLater = false) (r : P.bearsReflect = false) (d : P.doorFits [] = true) : P.mayEnter = true := by
  unfold Program.mayEnter
  rw [h, bhd]
  simp only [strip1, strip2, l, r, d, Bool.not_false, Bool.or_true, Bool.and_true, Bool.true_and]
  simp
theorem lays : Tryz.prog.laysLater = false := by kernel_rfl
theorem bears : Tryz.prog.bearsReflect = false := by kernel_rfl
theorem door : Tryz.prog.doorFits [] = true := by kernel_rfl
theorem enter : Tryz.prog.mayEnter = true := enter_of ini lays bears door
theorem made : Tryz.prog.make = some .cut := make_of ini
theorem lifts : Tryz.prog.liftsFinal = false := by
  unfold Program.liftsFinal Program.headLifts
  rewrite [ini]
  kernel_rfl
theorem laidOut : laidOutB Tryz.prog = true := by kernel_rfl
theorem maps : mapsRowed Tryz.prog = true := by kernel_rfl
theorem heard : Tryz.prog.stopsHeard = true := by kernel_rfl
end Go.Proofs.YthdljdelfgofdaaGreatDoor.Head
