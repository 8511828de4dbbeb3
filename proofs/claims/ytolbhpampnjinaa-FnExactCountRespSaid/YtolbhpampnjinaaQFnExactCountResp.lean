/- FnExactCountResp over data: it answers true. No condition but those in each line. -/
import Derived.Test.YtolbhpampnjinaaPWave
namespace Go.Proofs.Ytolbhpampnjinaa.Ev
open Go Go.Proofs Go.RowKit
set_option linter.unusedVariables false
set_option linter.unusedSimpArgs false
def respW (r : Int) (w : GWave) : Bool := w.ready && (decide (w.data_ ≥ 0) && decide (w.resp = r))
theorem s_CountResp_eq (xs : List GWave) (r : Int) (hl : xs.length < 4611686018427387904) : p_s_CountResp xs r = some (xs.countP (respW r) : Int) := by
  refine count_list xs hl (respW r) (p_s_CountResp__L1 xs r) (fun m n i => ?_)
  show p_s_CountResp__L1b xs r _ n i = _
  unfold p_s_CountResp__L1b
  congr 1; congr 1; funext a
  cases h1 : a.ready <;> by_cases h2 : a.data_ ≥ 0 <;> by_cases h3 : a.resp = r <;> simp [respW, h1, h2, h3]
theorem i_CountResp_eq (xs : List GWave) (r : Int) (hl : xs.length < 4611686018427387904) : p_i_CountResp xs r = some (xs.countP (respW r) : Int) := by
  have : p_i_countOf__i_CountResp_1 xs r = some (xs.countP (respW r) : Int) := by
    refine count_list xs hl (respW r) (p_i_countOf__i_CountResp_1__L1 xs r) (fun m n i => ?_)
    show p_i_countOf__i_CountResp_1__L1b xs r _ n i = _
    unfold p_i_countOf__i_CountResp_1__L1b
    congr 1; congr 1; funext a
    cases h1 : a.ready <;> by_cases h2 : a.data_ ≥ 0 <;> by_cases h3 : a.resp = r <;> simp [respW, p_i_CountResp_1, h1, h2, h3]
  unfold p_i_CountResp
  rw [this]; rfl
theorem law_w_FnExactCountResp (xs : List GWave) (r : Int) (h : xs.length ≤ maxLen ∧ ∀ x ∈ xs, x.ok) (hr : (Lit.int .i64 r).wf = true) : p_w_FnExactCountResp xs r = some true :=
  wave_law xs (by have := h.1; unfold maxLen at this; omega) (fun l => p_s_CountResp l r) (fun l => p_i_CountResp l r) (fun hl => ⟨_, s_CountResp_eq xs r (by omega), i_CountResp_eq xs r (by omega)⟩)
end Go.Proofs.Ytolbhpampnjinaa.Ev
