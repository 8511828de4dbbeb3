/- How many beats a master has, and how far two are apart. No condition but those in each line. -/
import Derived.Test.YtolbhpampnjinaaPDraw
namespace Go.Proofs.Ytolbhpampnjinaa.Ev
open Go Go.Proofs Go.RowKit
set_option linter.unusedVariables false
set_option linter.unusedSimpArgs false
def servedF (l : List GDone) (i : Int) : Nat := l.countP fun d => decide (d.who = i) && (decide (0 ≤ d.cycle) && decide (d.cycle < 4000))
theorem i_ServedF_eq (l : List GDone) (i : Int) (hl : l.length < 4611686018427387904) : p_i_Served l i 0 4000 = some (servedF l i : Int) := by
  unfold p_i_Served servedF
  refine count_list l hl _ (p_i_Served__L1 l i 0 4000) fun m n k => ?_
  show p_i_Served__L1b l i 0 4000 _ n k = _
  unfold p_i_Served__L1b
  congr 1; congr 1; funext d
  by_cases h1 : d.who = i <;> by_cases h2 : 0 ≤ d.cycle <;> by_cases h3 : d.cycle < 4000 <;> simp [h1, h2, h3]
theorem s_ServedF_eq (l : List GDone) (i : Int) (hl : l.length < 4611686018427387904) : p_s_Served l i 0 4000 = some (servedF l i : Int) := by
  unfold p_s_Served servedF
  refine count_list l hl _ (p_s_Served__L1 l i 0 4000) fun m n k => ?_
  show p_s_Served__L1b l i 0 4000 _ n k = _
  unfold p_s_Served__L1b
  congr 1; congr 1; funext d
  by_cases h1 : d.who = i <;> by_cases h2 : 0 ≤ d.cycle <;> by_cases h3 : d.cycle < 4000 <;> simp [h1, h2, h3]
theorem servedF_le (l : List GDone) (i : Int) : servedF l i ≤ l.length := List.countP_le_length
theorem servedF_add (l : List GDone) (i n who : Int) (h0 : 0 ≤ n) (h1 : n < 4000) : servedF (l ++ [GDone.mk n who false 0 0 0 0]) i = servedF l i + if who = i then 1 else 0 := by
  unfold servedF
  rw [List.countP_append]
  by_cases h : who = i <;> simp [List.countP_cons, h, h0, h1]
/-- How far two are apart. -/
def apartG (c : GConf) (l : List GDone) (i j : Int) : Int := maxI (subW (mulW (servedF l i) (weightG c j)) (mulW (servedF l j) (weightG c i))) (negW (subW (mulW (servedF l i) (weightG c j)) (mulW (servedF l j) (weightG c i))))
theorem i_Spread_val (c : GConf) (l : List GDone) (i j : Int) (hc : confG c = true) (hi : masterG c i = true) (hj : masterG c j = true) (hl : c.masters.length < 1048577) (hd : l.length < 4611686018427387904) : p_i_Spread c l i j = some (apartG c l i j) := by
  unfold p_i_Spread
  rw [i_areTurns_eq c i j hl, Option.bind_some]
  have h1 := turnG_pos hc hi
  have h2 := turnG_pos hc hj
  have h3 : ¬ turnG c i = 0 := by omega
  have h4 : ¬ turnG c j = 0 := by omega
  obtain ⟨m, hm, _, em⟩ := idx_master hi
  obtain ⟨n, hn, _, en⟩ := idx_master hj
  simp only [i_ServedF_eq l _ hd, Option.bind_some, hm, hn, em, en]
  simp [h3, h4, apartG]
theorem s_Spread_val (c : GConf) (l : List GDone) (i j : Int) (hc : confG c = true) (hi : masterG c i = true) (hj : masterG c j = true) (hl : c.masters.length < 1048577) (hd : l.length < 4611686018427387904) : p_s_Spread c l i j = some (apartG c l i j) := by
  unfold p_s_Spread
  have h1 := turnG_pos hc hi
  have h2 := turnG_pos hc hj
  have h3 : ¬ turnG c i = 0 := by omega
  have h4 : ¬ turnG c j = 0 := by omega
  obtain ⟨m, hm, _, em⟩ := idx_master hi
  obtain ⟨n, hn, _, en⟩ := idx_master hj
  unfold p_s_Spread__J1
  simp only [s_TurnOf_eq c _ hl, s_ServedF_eq l _ hd, Option.bind_some, hm, hn, em, en]
  simp [h3, h4, apartG]
theorem i_SpreadMost_val (c : GConf) (i j : Int) (hc : confG c = true) (hi : masterG c i = true) (hj : masterG c j = true) (hl : c.masters.length < 1048577) : p_i_SpreadMost c i j = some (turnG c i * weightG c j + weightG c i + weightG c j) := by
  unfold p_i_SpreadMost
  rw [i_areTurns_eq c i j hl, Option.bind_some]
  have h1 := turnG_pos hc hi
  have h2 := turnG_pos hc hj
  have h3 : ¬ turnG c i = 0 := by omega
  have h4 : ¬ turnG c j = 0 := by omega
  have h5 := conf_weightG hc hi
  have h6 := conf_weightG hc hj
  obtain ⟨m, hm, _, em⟩ := idx_master hi
  obtain ⟨n, hn, _, en⟩ := idx_master hj
  have h7 : 0 ≤ turnG c i * weightG c j ∧ turnG c i * weightG c j ≤ 64 := by
    obtain ⟨a, ha⟩ : ∃ a, weightG c j = a := ⟨_, rfl⟩
    rw [ha] at h6 ⊢
    have : a = 1 ∨ a = 2 ∨ a = 3 ∨ a = 4 := by omega
    rcases this with rfl | rfl | rfl | rfl <;> omega
  simp only [i_TurnOf_eq c _ hl, Option.bind_some, hm, hn, em, en]
  rw [mulW_of (by omega) (by omega), addW_of (a := turnG c i * weightG c j) (by omega) (by omega), addW_of (by omega) (by omega)]
  simp [h3, h4]
end Go.Proofs.Ytolbhpampnjinaa.Ev
