/- FnExactSpread over data: it answers true. No condition but those in each line. -/
import Derived.Test.YtolbhpampnjinaaPConf
namespace Go.Proofs.Ytolbhpampnjinaa.Ev
open Go Go.Proofs Go.RowKit
set_option linter.unusedVariables false
set_option linter.unusedSimpArgs false
def servedG (l : List GDone) (i a b : Int) : Nat := l.countP fun d => decide (d.who = i) && (decide (a ≤ d.cycle) && decide (d.cycle < b))
theorem i_Served_eq (l : List GDone) (i a b : Int) (hl : l.length < 4611686018427387904) : p_i_Served l i a b = some (servedG l i a b : Int) := by
  unfold p_i_Served servedG
  refine count_list l hl _ (p_i_Served__L1 l i a b) fun m n k => ?_
  show p_i_Served__L1b l i a b _ n k = _
  unfold p_i_Served__L1b
  congr 1; congr 1; funext d
  by_cases h1 : d.who = i <;> by_cases h2 : a ≤ d.cycle <;> by_cases h3 : d.cycle < b <;> simp [h1, h2, h3]
theorem s_Served_eq (l : List GDone) (i a b : Int) (hl : l.length < 4611686018427387904) : p_s_Served l i a b = some (servedG l i a b : Int) := by
  unfold p_s_Served servedG
  refine count_list l hl _ (p_s_Served__L1 l i a b) fun m n k => ?_
  show p_s_Served__L1b l i a b _ n k = _
  unfold p_s_Served__L1b
  congr 1; congr 1; funext d
  by_cases h1 : d.who = i <;> by_cases h2 : a ≤ d.cycle <;> by_cases h3 : d.cycle < b <;> simp [h1, h2, h3]
theorem s_Spread_eq (c : GConf) (l : List GDone) (i j : Int) (hl : c.masters.length < 1048577) (hd : l.length < 4611686018427387904) : ∃ n, p_s_Spread c l i j = some n ∧ p_i_Spread c l i j = some n := by
  unfold p_s_Spread p_i_Spread
  rw [s_TurnOf_eq c i hl, s_TurnOf_eq c j hl, i_areTurns_eq c i j hl, Option.bind_some, Option.bind_some, Option.bind_some]
  unfold p_s_Spread__J1
  simp only [s_Served_eq l _ _ _ hd, i_Served_eq l _ _ _ hd, Option.bind_some]
  by_cases h1 : turnG c i = 0
  · simp [h1]
  · by_cases h2 : turnG c j = 0
    · simp [h1, h2]
    · have h3 : masterG c i = true := by
        have := mt turnG_zero.2 h1
        exact (Decidable.not_not.1 this).2
      have h4 : masterG c j = true := by
        have := mt turnG_zero.2 h2
        exact (Decidable.not_not.1 this).2
      obtain ⟨m, hm, _, _⟩ := idx_master h3
      obtain ⟨n, hn, _, _⟩ := idx_master h4
      simp [h1, h2, hm, hn]
theorem law_w_FnExactSpread (c : GConf) (l : List GDone) (i j : Int) (h : c.ok) (hd : l.length ≤ maxLen ∧ ∀ x ∈ l, x.ok) (hi : (Lit.int .i64 i).wf = true) (hj : (Lit.int .i64 j).wf = true) : p_w_FnExactSpread c l i j = some true := by
  unfold p_w_FnExactSpread
  have hd2 : l.length ≤ 9223372036854775807 := by have := hd.1; unfold maxLen at this; omega
  rw [szConf_eq c (by omega) (by omega) (ok_conf h), Option.bind_some]
  by_cases hc : (1048576 : Int) < (c.masters.length : Int)
  · rw [leftI_out hc]; rfl
  · have hl : c.masters.length < 1048577 := by omega
    rw [leftI_in hc, if_neg (by simpa using (by omega : ¬ ((1048576 : Int) - (c.masters.length : Int) < 0)))]
    rw [szDoneS_eq l (by omega) (by omega) hd2, Option.bind_some]
    by_cases hc2 : (1048576 : Int) - (c.masters.length : Int) < (l.length : Int)
    · rw [leftI_out hc2]; rfl
    · rw [leftI_in hc2, if_neg (by simpa using (by omega : ¬ ((1048576 : Int) - (c.masters.length : Int) - (l.length : Int) < 0)))]
      have hdl : l.length < 1048577 := by omega
      obtain ⟨n, hs, hi⟩ := s_Spread_eq c l i j hl (by omega)
      simp [toConf_eq c hl, hs, hi, eqConf_eq c c (by omega), toDoneS_eq l hdl, eqDoneS_eq l l (by omega)]
end Go.Proofs.Ytolbhpampnjinaa.Ev
