/- FnExactWaitsOf over data: it answers true. No condition but those in each line. -/
import Derived.Test.YtolbhpampnjinaaPWave
namespace Go.Proofs.Ytolbhpampnjinaa.Ev
open Go Go.Proofs Go.RowKit
set_option linter.unusedVariables false
set_option linter.unusedSimpArgs false
def waitW (w : GWave) : Bool := !w.ready && decide (w.resp = 0)
theorem s_WaitsOf_eq (xs : List GWave) (hl : xs.length < 4611686018427387904) : p_s_WaitsOf xs = some (xs.countP waitW : Int) := by
  refine count_list xs hl waitW (p_s_WaitsOf__L1 xs) (fun m n i => ?_)
  show p_s_WaitsOf__L1b xs _ n i = _
  unfold p_s_WaitsOf__L1b
  congr 1; congr 1; funext a
  cases h1 : a.ready <;> by_cases h2 : a.resp = 0 <;> simp [waitW, h1, h2]
theorem i_WaitsOf_eq (xs : List GWave) (hl : xs.length < 4611686018427387904) : p_i_WaitsOf xs = some (xs.countP waitW : Int) := by
  have : p_i_countOf__i_WaitsOf_1 xs = some (xs.countP waitW : Int) := by
    refine count_list xs hl waitW (p_i_countOf__i_WaitsOf_1__L1 xs) (fun m n i => ?_)
    show p_i_countOf__i_WaitsOf_1__L1b xs _ n i = _
    unfold p_i_countOf__i_WaitsOf_1__L1b
    congr 1; congr 1; funext a
    cases h1 : a.ready <;> by_cases h2 : a.resp = 0 <;> simp [waitW, p_i_WaitsOf_1, h1, h2]
  unfold p_i_WaitsOf
  rw [this]; rfl
theorem law_w_FnExactWaitsOf (xs : List GWave) (h : xs.length ≤ maxLen ∧ ∀ x ∈ xs, x.ok) : p_w_FnExactWaitsOf xs = some true :=
  wave_law xs (by have := h.1; unfold maxLen at this; omega) p_s_WaitsOf p_i_WaitsOf (fun hl => ⟨_, s_WaitsOf_eq xs (by omega), i_WaitsOf_eq xs (by omega)⟩)
end Go.Proofs.Ytolbhpampnjinaa.Ev
