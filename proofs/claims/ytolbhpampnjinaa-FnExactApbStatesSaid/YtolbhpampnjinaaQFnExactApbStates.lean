/- FnExactApbStates over data: it answers true. No condition but those in each line. -/
import Derived.Test.YtolbhpampnjinaaPHarn
import Derived.KernelRfl
namespace Go.Proofs.Ytolbhpampnjinaa.Ev
open Go Go.Proofs Go.RowKit
set_option linter.unusedVariables false
set_option linter.unusedSimpArgs false
theorem law_w_FnExactApbStates (x : Int) (h : (Lit.int .i64 x).wf = true) : p_w_FnExactApbStates x = some true := by
  by_cases h1 : 0 ≤ x ∧ x ≤ 3
  · have : x = 0 ∨ x = 1 ∨ x = 2 ∨ x = 3 := by omega
    rcases this with rfl | rfl | rfl | rfl
    · show p_w_FnExactApbStates 0 = some true; kernel_rfl
    · show p_w_FnExactApbStates 1 = some true; kernel_rfl
    · show p_w_FnExactApbStates 2 = some true; kernel_rfl
    · show p_w_FnExactApbStates 3 = some true; kernel_rfl
  · have hi : p_i_within x 0 3 = some false := by
      unfold p_i_within
      by_cases h2 : 0 ≤ x
      · have h3 : ¬ x ≤ 3 := by omega
        simp [h2, h3]
      · simp [h2]
    have hs : p_s_l1In x 0 3 = some false := by
      unfold p_s_l1In
      by_cases h2 : x ≥ 0
      · have h3 : ¬ x ≤ 3 := by omega
        simp [h2, h3]
      · simp [h2]
    have e1 : p_i_ApbStates x = some [] := by
      unfold p_i_ApbStates p_i_ApbStart
      rw [hi]
      kernel_rfl
    have e2 : p_s_ApbStates x = some [] := by
      unfold p_s_ApbStates p_s_ApbStart
      rw [hs]
      kernel_rfl
    unfold p_w_FnExactApbStates p_w_FnExactApbStates__J1
    rw [e1, e2]
    have e3 : p_w_eqIntS [] [] = some true := by kernel_rfl
    have e4 : p_w_heldIntS [] 1 = some 1 := by kernel_rfl
    have e5 : p_w_markIntS [] 1 = some (1, []) := by kernel_rfl
    simp [e1, e3, e4, e5]
end Go.Proofs.Ytolbhpampnjinaa.Ev
