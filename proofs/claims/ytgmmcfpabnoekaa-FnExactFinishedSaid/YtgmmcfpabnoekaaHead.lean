/- What a row asks of the whole program: facts, each by itself. No condition. -/
import Derived.Test.YtgmmcfpabnoekaaRows
import Derived.JoinedOf
namespace Go.Proofs.Ytgmmcfpabnoekaa.Head
open Go Go.Proofs
set_option linter.unusedSimpArgs false
def heads : List Char := [104, 97, 114, 110, 101, 115, 115, 32, 52, 98, 53, 101, 102, 55, 54, 55, 102, 98, 101, 97, 57, 56, 52, 57, 57, 51, 99, 97, 99, 101, 102, 57, 99, 51, 48, 99, 100, 100, 48, 57, 57, 49, 97, 54, 51, 50, 52, 100, 97, 51, 55, 98, 54, 55, 53, 97, 51, 51, 50, 48, 52, 97, 57, 52, 53, 100, 98, 57, 98, 55, 56, 97, 32, 99, 117, 116, 32, 97, 116, 32, 108, 111, 111, 112, 46, 101, 120, 97, 109, 112, 108, 101, 47, 103, 48, 49, 54, 50, 51, 47, 108, 97, 119, 115, 46, 70, 110, 69, 120, 97, 99, 116, 70, 105, 110, 105, 115, 104, 101, 100].map Char.ofNat
def behind : List (List Char) := (behindMainWord (wordsSigns heads)).tail
theorem ini : Try.prog.initOrder.toList = heads := by
  have h : Try.prog.initOrder = String.ofList heads := by kernel_rfl
  rw [h, String.toList_ofList]
theorem bhd : behindMainWord (wordsSigns heads) = "cut".toList :: behind := by kernel_rfl
theorem make_of {P : Program} (h : P.initOrder.toList = heads) : P.make = some .cut := by
  have a : ("cut".toList == "gc".toList) = false := by kernel_rfl
  have b : ("cut".toList == "spec".toList) = false := by kernel_rfl
  unfold Program.make
  rw [h, bhd]
  simp only [a, b, Bool.or_self, Bool.false_eq_true, if_false, beq_self_eq_true, Bool.true_or, if_true]
theorem strip1 : (stripLifts liftWords ("cut".toList :: behind)).1 = [] := by kernel_rfl
theorem strip2 : ((stripLifts liftWords ("cut".toList :: behind)).2.head? == some "cut".toList) = true := by kernel_rfl
theorem enter_of {P : Program} (h : P.initOrder.toList = heads) (l : P.laysLater = false) (r : P.bearsReflect = false) (d : P.doorFits [] = true) : P.mayEnter = true := by
  unfold Program.mayEnter
  rw [h, bhd]
  simp only [strip1, strip2, l, r, d, Bool.not_false, Bool.or_true, Bool.and_true, Bool.true_and]
  simp
theorem lays : Try.prog.laysLater = false := by kernel_rfl
theorem bears : Try.prog.bearsReflect = false := by kernel_rfl
theorem door : Try.prog.doorFits [] = true := by kernel_rfl
theorem enter : Try.prog.mayEnter = true := enter_of ini lays bears door
theorem made : Try.prog.make = some .cut := make_of ini
theorem lifts : Try.prog.liftsFinal = false := by
  unfold Program.liftsFinal Program.headLifts
  rewrite [ini]
  kernel_rfl
theorem laidOut : laidOutB Try.prog = true := by kernel_rfl
theorem maps : mapsRowed Try.prog = true := by kernel_rfl
theorem heard : Try.prog.stopsHeard = true := by kernel_rfl
end Go.Proofs.Ytgmmcfpabnoekaa.Head
