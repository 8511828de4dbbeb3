/- What a row asks of the whole program: facts, each by itself. No condition. -/
import Derived.Test.YtlcfolgfmlgncaaDoorRows
import Derived.JoinedOf
namespace Go.Proofs.YtlcfolgfmlgncaaDoor.Head
open Go Go.Proofs
set_option linter.unusedSimpArgs false
def heads : List Char := [104, 97, 114, 110, 101, 115, 115, 32, 97, 51, 48, 51, 57, 51, 48, 55, 99, 53, 52, 100, 51, 48, 99, 99, 101, 101, 54, 101, 48, 53, 52, 49, 50, 53, 51, 99, 100, 54, 54, 100, 57, 57, 55, 52, 100, 50, 49, 102, 97, 101, 51, 53, 49, 98, 52, 102, 99, 57, 57, 53, 100, 56, 51, 49, 53, 54, 56, 57, 50, 98, 54, 56, 32, 99, 117, 116, 32, 97, 116, 32, 108, 111, 111, 112, 46, 101, 120, 97, 109, 112, 108, 101, 47, 103, 48, 49, 54, 50, 51, 47, 108, 97, 119, 115, 46, 70, 110, 69, 120, 97, 99, 116, 82, 101, 97, 100, 67, 111, 110, 102, 32, 108, 111, 111, 112, 46, 101, 120, 97, 109, 112, 108, 101, 47, 103, 48, 49, 54, 50, 51, 47, 108, 97, 119, 115, 46, 70, 110, 67, 111, 110, 102, 115].map Char.ofNat
def behind : List (List Char) := (behindMainWord (wordsSigns heads)).tail
theorem ini : Tryd.prog.initOrder.toList = heads := by
  have h : Tryd.prog.initOrder = String.ofList heads := by kernel_rfl
  rw [h, String.toList_ofList]
theorem bhd : behindMainWord (wordsSigns heads) = "cut".toList :: behind := by kernel_rfl
theorem make_of {P : Program} (h : P.initOrder.toList = heads) : P.make = some .cut := by
  have a : ("cut".toList == "gc".toList) = false := by kernel_rfl
  have b : ("cut".toList == "spec".toList) = false := by kernel_rfl
  unfold Program.make
  rw [h, bhd]
  simp only [a, b, Bool.or_self, Bool.false_eq_true, if_false, beq_self_eq_true, Bool.true_or, if_true]
theorem strip1 : (stripLifts liftWords ("cut".toList :: behind)).1 = [] := by kernel_rfl
theorem strip2 : ((stripLifts liftWords ("cut".toList :: behind)).2.head? == some "cut".toList) = true := by kernel_rfl
theorem enter_of {P : Program} (h : P.initOrder.toList = heads) (l : P.laysLater = false) (r : P.bearsReflect = false) (d : P.doorFits [] = true) : P.mayEnter = true := by
  unfold Program.mayEnter
  rw [h, bhd]
  simp only [strip1, strip2, l, r, d, Bool.not_false, Bool.or_true, Bool.and_true, Bool.true_and]
  simp
theorem lays : Tryd.prog.laysLater = false := by kernel_rfl
theorem bears : Tryd.prog.bearsReflect = false := by kernel_rfl
theorem door : Tryd.prog.doorFits [] = true := by kernel_rfl
theorem enter : Tryd.prog.mayEnter = true := enter_of ini lays bears door
theorem made : Tryd.prog.make = some .cut := make_of ini
theorem lifts : Tryd.prog.liftsFinal = false := by
  unfold Program.liftsFinal Program.headLifts
  rewrite [ini]
  kernel_rfl
theorem laidOut : laidOutB Tryd.prog = true := by kernel_rfl
theorem maps : mapsRowed Tryd.prog = true := by kernel_rfl
theorem heard : Tryd.prog.stopsHeard = true := by kernel_rfl
end Go.Proofs.YtlcfolgfmlgncaaDoor.Head
