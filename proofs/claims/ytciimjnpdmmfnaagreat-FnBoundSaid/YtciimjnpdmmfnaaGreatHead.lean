/- What a row asks of the whole program: facts, each by itself. No condition. -/
import Derived.Test.YtciimjnpdmmfnaaGreatRows
import Derived.JoinedOf
namespace Go.Proofs.YtciimjnpdmmfnaaGreat.Head
open Go Go.Proofs
set_option linter.unusedSimpArgs false
def heads : List Char := [104, 97, 114, 110, 101, 115, 115, 32, 48, 57, 52, 54, 97, 102, 52, 54, 57, 102, 51, 51, 53, 51, 99, 54, 51, 55, 49, 53, 51, 50, 50, 53, 98, 99, 48, 48, 55, 98, 102, 102, 48, 100, 101, 56, 100, 51, 54, 48, 97, 97, 55, 57, 52, 50, 51, 98, 50, 55, 102, 57, 101, 99, 51, 57, 51, 53, 56, 98, 51, 51, 54, 54, 32, 99, 117, 116, 32, 97, 116, 32, 108, 111, 111, 112, 46, 101, 120, 97, 109, 112, 108, 101, 47, 103, 48, 49, 54, 50, 51, 47, 108, 97, 119, 115, 46, 70, 110, 65, 116, 77, 111, 115, 116, 32, 108, 111, 111, 112, 46, 101, 120, 97, 109, 112, 108, 101, 47, 103, 48, 49, 54, 50, 51, 47, 108, 97, 119, 115, 46, 70, 110, 76, 111, 99, 107, 101, 100, 32, 108, 111, 111, 112, 46, 101, 120, 97, 109, 112, 108, 101, 47, 103, 48, 49, 54, 50, 51, 47, 108, 97, 119, 115, 46, 70, 110, 80, 97, 114, 116, 115, 32, 108, 111, 111, 112, 46, 101, 120, 97, 109, 112, 108, 101, 47, 103, 48, 49, 54, 50, 51, 47, 108, 97, 119, 115, 46, 70, 110, 83, 116, 97, 116, 115, 32, 108, 111, 111, 112, 46, 101, 120, 97, 109, 112, 108, 101, 47, 103, 48, 49, 54, 50, 51, 47, 108, 97, 119, 115, 46, 70, 110, 73, 100, 108, 101, 32, 108, 111, 111, 112, 46, 101, 120, 97, 109, 112, 108, 101, 47, 103, 48, 49, 54, 50, 51, 47, 108, 97, 119, 115, 46, 70, 110, 78, 111, 83, 108, 97, 118, 101, 32, 108, 111, 111, 112, 46, 101, 120, 97, 109, 112, 108, 101, 47, 103, 48, 49, 54, 50, 51, 47, 108, 97, 119, 115, 46, 70, 110, 66, 114, 105, 100, 103, 101, 32, 108, 111, 111, 112, 46, 101, 120, 97, 109, 112, 108, 101, 47, 103, 48, 49, 54, 50, 51, 47, 108, 97, 119, 115, 46, 70, 110, 84, 111, 112, 32, 108, 111, 111, 112, 46, 101, 120, 97, 109, 112, 108, 101, 47, 103, 48, 49, 54, 50, 51, 47, 108, 97, 119, 115, 46, 70, 110, 79, 110, 101, 77, 97, 115, 116, 101, 114, 32, 108, 111, 111, 112, 46, 101, 120, 97, 109, 112, 108, 101, 47, 103, 48, 49, 54, 50, 51, 47, 108, 97, 119, 115, 46, 70, 110, 66, 111, 117, 110, 100].map Char.ofNat
def behind : List (List Char) := (behindMainWord (wordsSigns heads)).tail
theorem ini : Tryz.prog.initOrder.toList = heads := by
  have h : Tryz.prog.initOrder = String.ofList heads := by kernel_rfl
  rw [h, String.toList_ofList]
theorem bhd : behindMainWord (wordsSigns heads) = "cut".toList :: behind := by kernel_rfl
theorem make_of {P : Program} (h : P.initOrder.toList = heads) : P.make = some .cut := by
  have a : ("cut".toList == "gc".toList) = false := by kernel_rfl
  have b : ("cut".toList == "spec".toList) = false := by kernel_rfl
  unfold Program.make
  rw [h, bhd]
  simp only [a, b, Bool.or_self, Bool.false_eq_true, if_false, beq_self_eq_true, Bool.true_or, if_true]
theorem strip1 : (stripLifts liftWords ("cut".toList :: behind)).1 = [] := by kernel_rfl
theorem strip2 : ((stripLifts liftWords ("cut".toList :: behind)).2.head? == some "cut".toList) = true := by kernel_rfl
theorem enter_of {P : Program} (h : P.initOrder.toList = heads) (l : P.laysLater = false) (r : P.bearsReflect = false) (d : P.doorFits [] = true) : P.mayEnter = true := by
  unfold Program.mayEnter
  rw [h, bhd]
  simp only [strip1, strip2, l, r, d, Bool.not_false, Bool.or_true, Bool.and_true, Bool.true_and]
  simp
theorem lays : Tryz.prog.laysLater = false := by kernel_rfl
theorem bears : Tryz.prog.bearsReflect = false := by kernel_rfl
theorem door : Tryz.prog.doorFits [] = true := by kernel_rfl
theorem enter : Tryz.prog.mayEnter = true := enter_of ini lays bears door
theorem made : Tryz.prog.make = some .cut := make_of ini
theorem lifts : Tryz.prog.liftsFinal = false := by
  unfold Program.liftsFinal Program.headLifts
  rewrite [ini]
  kernel_rfl
theorem laidOut : laidOutB Tryz.prog = true := by kernel_rfl
theorem maps : mapsRowed Tryz.prog = true := by kernel_rfl
theorem heard : Tryz.prog.stopsHeard = true := by kernel_rfl
end Go.Proofs.YtciimjnpdmmfnaaGreat.Head
