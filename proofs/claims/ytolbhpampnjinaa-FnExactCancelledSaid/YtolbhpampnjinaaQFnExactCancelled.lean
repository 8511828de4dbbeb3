/- FnExactCancelled over data: it answers true. No condition but those in each line. -/
import Derived.Test.YtolbhpampnjinaaPWave
namespace Go.Proofs.Ytolbhpampnjinaa.Ev
open Go Go.Proofs Go.RowKit
set_option linter.unusedVariables false
set_option linter.unusedSimpArgs false
def cancelledW (w : GWave) : Bool := !w.ready && (decide (w.resp ≠ 0) && decide (w.addr ≥ 0))
theorem s_Cancelled_eq (xs : List GWave) (hl : xs.length < 4611686018427387904) : p_s_Cancelled xs = some (xs.countP cancelledW : Int) := by
  refine count_list xs hl cancelledW (p_s_Cancelled__L1 xs) (fun m n i => ?_)
  show p_s_Cancelled__L1b xs _ n i = _
  unfold p_s_Cancelled__L1b
  congr 1; congr 1; funext a
  cases h1 : a.ready <;> by_cases h2 : a.resp = 0 <;> by_cases h3 : a.addr ≥ 0 <;> simp [cancelledW, h1, h2, h3]
theorem i_Cancelled_eq (xs : List GWave) (hl : xs.length < 4611686018427387904) : p_i_Cancelled xs = some (xs.countP cancelledW : Int) := by
  have : p_i_countOf__i_Cancelled_1 xs = some (xs.countP cancelledW : Int) := by
    refine count_list xs hl cancelledW (p_i_countOf__i_Cancelled_1__L1 xs) (fun m n i => ?_)
    show p_i_countOf__i_Cancelled_1__L1b xs _ n i = _
    unfold p_i_countOf__i_Cancelled_1__L1b
    congr 1; congr 1; funext a
    cases h1 : a.ready <;> by_cases h2 : a.resp = 0 <;> by_cases h3 : a.addr ≥ 0 <;> simp [cancelledW, p_i_Cancelled_1, h1, h2, h3]
  unfold p_i_Cancelled
  rw [this]; rfl
theorem law_w_FnExactCancelled (xs : List GWave) (h : xs.length ≤ maxLen ∧ ∀ x ∈ xs, x.ok) : p_w_FnExactCancelled xs = some true :=
  wave_law xs (by have := h.1; unfold maxLen at this; omega) p_s_Cancelled p_i_Cancelled (fun hl => ⟨_, s_Cancelled_eq xs (by omega), i_Cancelled_eq xs (by omega)⟩)
end Go.Proofs.Ytolbhpampnjinaa.Ev
