/- What a row asks of the whole program: facts, each by itself. No condition. -/
import Derived.Test.YtagdmghmblplbaaGreatRows
import Derived.JoinedOf
namespace Go.Proofs.YtagdmghmblplbaaGreat.Head
open Go Go.Proofs
set_option linter.unusedSimpArgs false
def heads : List Char := [104, 97, 114, 110, 101, 115, 115, 32, 56, 102, 51, 54, 99, 52, 53, 51, 48, 50, 48, 53, 53, 52, 49, 99, 52, 51, 49, 49, 99, 101, 48, 52, 49, 54, 52, 49, 52, 51, 52, 49, 52, 54, 48, 102, 48, 52, 56, 98, 57, 52, 51, 55, 98, 100, 100, 50, 57, 51, 98, 97, 56, 99, 57, 53, 102, 49, 101, 56, 51, 101, 99, 55, 32, 99, 117, 116, 32, 97, 116, 32, 108, 111, 111, 112, 46, 101, 120, 97, 109, 112, 108, 101, 47, 103, 48, 49, 54, 50, 51, 47, 108, 97, 119, 115, 46, 70, 110, 69, 120, 97, 99, 116, 83, 111, 108, 111, 32, 108, 111, 111, 112, 46, 101, 120, 97, 109, 112, 108, 101, 47, 103, 48, 49, 54, 50, 51, 47, 108, 97, 119, 115, 46, 70, 110, 69, 120, 97, 99, 116, 80, 108, 97, 121, 32, 108, 111, 111, 112, 46, 101, 120, 97, 109, 112, 108, 101, 47, 103, 48, 49, 54, 50, 51, 47, 108, 97, 119, 115, 46, 70, 110, 69, 120, 97, 99, 116, 66, 117, 115, 83, 116, 101, 112, 32, 108, 111, 111, 112, 46, 101, 120, 97, 109, 112, 108, 101, 47, 103, 48, 49, 54, 50, 51, 47, 108, 97, 119, 115, 46, 70, 110, 69, 120, 97, 99, 116, 82, 117, 110, 79, 117, 116, 32, 108, 111, 111, 112, 46, 101, 120, 97, 109, 112, 108, 101, 47, 103, 48, 49, 54, 50, 51, 47, 108, 97, 119, 115, 46, 70, 110, 69, 120, 97, 99, 116, 66, 117, 115, 82, 117, 110].map Char.ofNat
def behind : List (List Char) := (behindMainWord (wordsSigns heads)).tail
theorem ini : Tryz.prog.initOrder.toList = heads := by
  have h : Tryz.prog.initOrder = String.ofList heads := by kernel_rfl
  rw [h, String.toList_ofList]
theorem bhd : behindMainWord (wordsSigns heads) = "cut".toList :: behind := by kernel_rfl
theorem make_of {P : Program} (h : P.initOrder.toList = heads) : P.make = some .cut := by
  have a : ("cut".toList == "gc".toList) = false := by kernel_rfl
  have b : ("cut".toList == "spec".toList) = false := by kernel_rfl
  unfold Program.make
  rw [h, bhd]
  simp only [a, b, Bool.or_self, Bool.false_eq_true, if_false, beq_self_eq_true, Bool.true_or, if_true]
theorem strip1 : (stripLifts liftWords ("cut".toList :: behind)).1 = [] := by kernel_rfl
theorem strip2 : ((stripLifts liftWords ("cut".toList :: behind)).2.head? == some "cut".toList) = true := by kernel_rfl
theorem enter_of {P : Program} (h : P.initOrder.toList = heads) (l : P.laysLater = false) (r : P.bearsReflect = false) (d : P.doorFits [] = true) : P.mayEnter = true := by
  unfold Program.mayEnter
  rw [h, bhd]
  simp only [strip1, strip2, l, r, d, Bool.not_false, Bool.or_true, Bool.and_true, Bool.true_and]
  simp
theorem lays : Tryz.prog.laysLater = false := by kernel_rfl
theorem bears : Tryz.prog.bearsReflect = false := by kernel_rfl
theorem door : Tryz.prog.doorFits [] = true := by kernel_rfl
theorem enter : Tryz.prog.mayEnter = true := enter_of ini lays bears door
theorem made : Tryz.prog.make = some .cut := make_of ini
theorem lifts : Tryz.prog.liftsFinal = false := by
  unfold Program.liftsFinal Program.headLifts
  rewrite [ini]
  kernel_rfl
theorem laidOut : laidOutB Tryz.prog = true := by kernel_rfl
theorem maps : mapsRowed Tryz.prog = true := by kernel_rfl
theorem heard : Tryz.prog.stopsHeard = true := by kernel_rfl
end Go.Proofs.YtagdmghmblplbaaGreat.Head
