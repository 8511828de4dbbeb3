/- FnExactSpreadMost over data: it answers true. No condition but those in each line. -/
import Derived.Test.YtolbhpampnjinaaPConf
namespace Go.Proofs.Ytolbhpampnjinaa.Ev
open Go Go.Proofs Go.RowKit
set_option linter.unusedVariables false
set_option linter.unusedSimpArgs false
theorem s_SpreadMost_eq (c : GConf) (i j : Int) (hl : c.masters.length < 1048577) : ∃ n, p_s_SpreadMost c i j = some n ∧ p_i_SpreadMost c i j = some n := by
  unfold p_s_SpreadMost p_i_SpreadMost
  rw [s_TurnOf_eq c i hl, s_TurnOf_eq c j hl, i_areTurns_eq c i j hl, i_TurnOf_eq c i hl, Option.bind_some, Option.bind_some, Option.bind_some, Option.bind_some]
  unfold p_s_SpreadMost__J1
  rw [s_TurnOf_eq c i hl, Option.bind_some]
  by_cases h1 : turnG c i = 0
  · simp [h1]
  · by_cases h2 : turnG c j = 0
    · simp [h1, h2]
    · have h3 : masterG c i = true := by
        have := mt turnG_zero.2 h1
        exact (Decidable.not_not.1 this).2
      have h4 : masterG c j = true := by
        have := mt turnG_zero.2 h2
        exact (Decidable.not_not.1 this).2
      obtain ⟨m, hm, _, _⟩ := idx_master h3
      obtain ⟨n, hn, _, _⟩ := idx_master h4
      simp [h1, h2, hm, hn]
theorem law_w_FnExactSpreadMost (c : GConf) (i j : Int) (h : c.ok) (hi : (Lit.int .i64 i).wf = true) (hj : (Lit.int .i64 j).wf = true) : p_w_FnExactSpreadMost c i j = some true := by
  unfold p_w_FnExactSpreadMost
  rw [szConf_eq c (by omega) (by omega) (ok_conf h), Option.bind_some]
  by_cases hc : (1048576 : Int) < (c.masters.length : Int)
  · rw [leftI_out hc]; rfl
  · have hl : c.masters.length < 1048577 := by omega
    rw [leftI_in hc, if_neg (by simpa using (by omega : ¬ ((1048576 : Int) - (c.masters.length : Int) < 0)))]
    obtain ⟨n, hs, hi⟩ := s_SpreadMost_eq c i j hl
    simp [toConf_eq c hl, hs, hi, eqConf_eq c c (by omega)]
end Go.Proofs.Ytolbhpampnjinaa.Ev
