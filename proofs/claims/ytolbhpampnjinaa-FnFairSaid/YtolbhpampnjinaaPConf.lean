/- Configurations over data: what both sides compute. No condition but those in each line. -/
import Derived.Test.YtolbhpampnjinaaPDone
namespace Go.Proofs.Ytolbhpampnjinaa.Ev
open Go Go.Proofs Go.RowKit
set_option linter.unusedVariables false
set_option linter.unusedSimpArgs false
theorem within_eq (x a b : Int) : p_i_within x a b = some (decide (a ≤ x ∧ x ≤ b)) := by
  unfold p_i_within
  by_cases h : a ≤ x <;> simp [h]
theorem l1In_eq (x a b : Int) : p_s_l1In x a b = some (decide (a ≤ x ∧ x ≤ b)) := by
  unfold p_s_l1In
  by_cases h : a ≤ x <;> simp [h]
theorem runL_all {α σ ρ : Type} (step : α → σ → Option (σ ⊕ ρ)) (fin : σ → Option ρ) (q : α → Bool) (x : ρ) (s : σ) : ∀ (xs : List α), (∀ a ∈ xs, step a s = some (if q a = true then .inl s else .inr x)) → runL step fin xs s = if xs.all q = true then fin s else some x := by
  intro xs
  induction xs with
  | nil => intro _; rfl
  | cons a l ih =>
    intro h
    simp only [runL, h a (List.mem_cons_self ..), Option.bind_some, List.all_cons]
    by_cases hq : q a = true
    · simp only [hq, if_true, Bool.true_and]
      exact ih fun b hb => h b (List.mem_cons_of_mem _ hb)
    · simp [hq]
/-- What the parts of a configuration come to. -/
def costG (c : GConf) : Int := if (0 ≤ c.maxRetry ∧ c.maxRetry ≤ 3) ∧ (0 ≤ c.maxWait ∧ c.maxWait ≤ 3) then (c.maxRetry + 2) * (c.maxWait + 6) else 0
def slotG (c : GConf) : Int := if costG c = 0 then 0 else if 1 ≤ c.lockMost ∧ c.lockMost ≤ 40 then 2 * costG c + c.lockMost else 0
def priosG (c : GConf) : Nat := c.masters.countP (·.prio)
def mconfG (c : GConf) (m : GMConf) : Bool := decide (1 ≤ m.weight ∧ m.weight ≤ 4) && if m.prio then decide (2 * slotG c * priosG c ≤ m.every ∧ m.every ≤ 1000) && decide (1 ≤ m.cap ∧ m.cap ≤ 8) else decide (m.every = 0) && decide (m.cap = 0)
def confG (c : GConf) : Bool := decide (1 ≤ (c.masters.length : Int) ∧ (c.masters.length : Int) ≤ 4) && decide (1 ≤ c.quantum ∧ c.quantum ≤ 4) && decide (1 ≤ c.maxSplit ∧ c.maxSplit ≤ 12) && decide (slotG c ≠ 0) && c.masters.all (mconfG c)
theorem costG_le (c : GConf) : 0 ≤ costG c ∧ costG c ≤ 45 := by
  unfold costG
  split
  · rename_i h
    obtain ⟨⟨h1, h2⟩, h3, h4⟩ := h
    generalize c.maxRetry = a at *
    generalize c.maxWait = b at *
    have : a = 0 ∨ a = 1 ∨ a = 2 ∨ a = 3 := by omega
    rcases this with rfl | rfl | rfl | rfl <;> omega
  · omega
theorem slotG_le (c : GConf) : 0 ≤ slotG c ∧ slotG c ≤ 130 := by
  have := costG_le c
  unfold slotG
  split
  · omega
  · split <;> omega
theorem s_CostOf_eq (c : GConf) : p_s_CostOf c = some (costG c) := by
  unfold p_s_CostOf
  rw [l1In_eq, Option.bind_some, l1In_eq, Option.bind_some]
  unfold p_s_CostOf__J1 costG
  by_cases h1 : 0 ≤ c.maxRetry ∧ c.maxRetry ≤ 3
  · by_cases h2 : 0 ≤ c.maxWait ∧ c.maxWait ≤ 3
    · have := costG_le c
      unfold costG at this
      rw [if_pos ⟨h1, h2⟩] at this
      simp only [h1, h2, decide_true, Bool.not_true, Bool.false_eq_true, if_false, and_self, if_true]
      rw [addW_of (by omega) (by omega), addW_of (by omega) (by omega), mulW_of (by omega) (by omega)]
    · simp [h1, h2]
  · simp [h1]
theorem i_CostOf_eq (c : GConf) : p_i_CostOf c = some (costG c) := by
  rw [← s_CostOf_eq]
  unfold p_i_CostOf p_s_CostOf
  simp only [l1In_eq, within_eq]
  rfl
theorem s_SlotOf_eq (c : GConf) : p_s_SlotOf c = some (slotG c) := by
  have := costG_le c
  unfold p_s_SlotOf slotG
  rw [s_CostOf_eq, Option.bind_some, l1In_eq, Option.bind_some, Option.bind_some]
  by_cases h0 : costG c = 0
  · simp [h0]
  · by_cases h1 : 1 ≤ c.lockMost ∧ c.lockMost ≤ 40
    · simp only [h0, h1, decide_true, decide_false, Bool.not_true, Bool.false_eq_true, if_false, and_self, if_true]
      rw [mulW_of (by omega) (by omega), addW_of (by omega) (by omega)]
    · simp [h0, h1]
theorem i_SlotOf_eq (c : GConf) : p_i_SlotOf c = some (slotG c) := by
  rw [← s_SlotOf_eq]
  unfold p_i_SlotOf p_s_SlotOf
  simp only [l1In_eq, within_eq, s_CostOf_eq, i_CostOf_eq]
theorem s_l6Limits_eq (c : GConf) : p_s_l6Limits c = some (decide (1 ≤ c.quantum ∧ c.quantum ≤ 4) && decide (1 ≤ c.maxSplit ∧ c.maxSplit ≤ 12) && decide (slotG c ≠ 0)) := by
  have := costG_le c
  unfold p_s_l6Limits slotG
  simp only [l1In_eq, s_CostOf_eq, Option.bind_some]
  by_cases h1 : 1 ≤ c.quantum ∧ c.quantum ≤ 4
  · by_cases h2 : costG c = 0
    · simp [h2]
    · have h3 : costG c > 0 := by omega
      by_cases h4 : 1 ≤ c.maxSplit ∧ c.maxSplit ≤ 12
      · by_cases h5 : 1 ≤ c.lockMost ∧ c.lockMost ≤ 40
        · have : ¬ (2 * costG c + c.lockMost = 0) := by omega
          simp [h1, h2, h3, h4, h5, this]
        · simp [h1, h2, h3, h4, h5]
      · simp [h1, h2, h3, h4]
  · simp [h1]
theorem prios_fold (xs : List GMConf) : ∀ (n : Int), 0 ≤ n → n + xs.length < 4611686018427387904 → ∀ {ρ : Type} (fin : Int → Option ρ), runL (fun (a : GMConf) n => some (.inl (if a.prio = true then addW n 1 else n))) fin xs n = fin (n + (xs.countP (·.prio) : Nat)) := by
  induction xs with
  | nil => intro n _ _ ρ fin; simp [runL]
  | cons a l ih =>
    intro n h0 hl ρ fin
    simp only [List.length_cons] at hl
    simp only [runL, Option.bind_some, List.countP_cons]
    by_cases h : a.prio = true
    · rw [if_pos h, addW_of (by omega) (by omega), ih _ (by omega) (by omega), if_pos h]
      congr 1; omega
    · rw [if_neg h, ih _ (by omega) (by omega), if_neg h]
      congr 1
theorem i_prios_eq (c : GConf) (hl : c.masters.length < 1048577) : p_i_prios c = some (priosG c : Int) := by
  unfold p_i_prios
  rw [loop_all c.masters (by omega) (fun (a : GMConf) n => some (.inl (if a.prio = true then addW n 1 else n))) some (p_i_prios__L1 c) (fun m s i => ?_) 0, prios_fold _ _ (by omega) (by omega)]
  · simp [priosG]
  · show p_i_prios__L1b c _ s i = _
    unfold p_i_prios__L1b
    congr 1; congr 1; funext a
    by_cases h : a.prio = true <;> simp [h, goL]
theorem priosG_le (c : GConf) : priosG c ≤ c.masters.length := List.countP_le_length
theorem every_le (c : GConf) (hl : c.masters.length < 1048577) : 0 ≤ slotG c * (priosG c : Int) ∧ slotG c * (priosG c : Int) ≤ 136314880 := by
  have h1 := slotG_le c
  have h2 := priosG_le c
  constructor
  · exact Int.mul_nonneg h1.1 (by omega)
  · have h3 : slotG c * (priosG c : Int) ≤ 130 * (priosG c : Int) := Int.mul_le_mul_of_nonneg_right h1.2 (by omega)
    omega
theorem i_LeastEvery_eq (c : GConf) (hl : c.masters.length < 1048577) : p_i_LeastEvery c = some (2 * slotG c * priosG c) := by
  have h1 := slotG_le c
  have h2 := every_le c hl
  unfold p_i_LeastEvery
  rw [i_SlotOf_eq, Option.bind_some, i_prios_eq c hl, Option.bind_some]
  rw [mulW_of (a := 2) (by omega) (by omega), mulW_of (by rw [Int.mul_assoc]; omega) (by rw [Int.mul_assoc]; omega)]
theorem i_ConfOk_1_eq (c : GConf) (m : GMConf) (hl : c.masters.length < 1048577) : p_i_ConfOk_1 m c = some (!mconfG c m) := by
  unfold p_i_ConfOk_1 mconfG
  simp only [within_eq, Option.bind_some, i_LeastEvery_eq c hl]
  by_cases h1 : 1 ≤ m.weight ∧ m.weight ≤ 4
  · by_cases h2 : m.prio = true
    · by_cases h3 : 2 * slotG c * priosG c ≤ m.every ∧ m.every ≤ 1000
      · simp [h1, h2, h3]
      · simp [h1, h2, h3]
    · by_cases h3 : m.every = 0
      · simp [h1, h2, h3]
      · simp [h1, h2, h3]
  · simp [h1]
theorem contains_eq (c : GConf) (xs : List GMConf) (hl : c.masters.length < 1048577) (hx : xs.length < 4611686018427387904) : p_slices_ContainsFunc_MConf_MConf__i_ConfOk_1 xs c = some (!xs.all (mconfG c)) := by
  unfold p_slices_ContainsFunc_MConf_MConf__i_ConfOk_1 p_slices_IndexFunc_MConf_MConf__i_ConfOk_1
  have key : ∀ (m k : Nat), k ≤ xs.length → xs.length - k < m → ∃ r, p_slices_IndexFunc_MConf_MConf__i_ConfOk_1__L1 xs c m k = some r ∧ decide (r ≥ 0) = !(xs.drop k).all (mconfG c) := by
    intro m
    induction m with
    | zero => intro k _ h; omega
    | succ m ih =>
      intro k hk hm
      have e : p_slices_IndexFunc_MConf_MConf__i_ConfOk_1__L1 xs c (m + 1) k = p_slices_IndexFunc_MConf_MConf__i_ConfOk_1__L1b xs c (p_slices_IndexFunc_MConf_MConf__i_ConfOk_1__L1 xs c m) k := rfl
      rw [e]
      unfold p_slices_IndexFunc_MConf_MConf__i_ConfOk_1__L1b
      by_cases hc : k < xs.length
      · have h1 : decide ((k : Int) < (xs.length : Int)) = true := by simpa using hc
        rw [if_pos h1, idx_get hc, Option.bind_some, i_ConfOk_1_eq c _ hl, Option.bind_some, List.drop_eq_getElem_cons hc, List.all_cons]
        by_cases hq : mconfG c xs[k] = true
        · have h2 : ¬ (!mconfG c xs[k]) = true := by simp [hq]
          rw [if_neg h2, addW_nat (by omega), hq, Bool.true_and]
          exact ih (k + 1) (by omega) (by omega)
        · have h2 : (!mconfG c xs[k]) = true := by simpa using hq
          rw [if_pos h2]
          refine ⟨_, rfl, ?_⟩
          simp [hq]
      · have h1 : ¬ decide ((k : Int) < (xs.length : Int)) = true := by simpa using hc
        rw [if_neg h1, List.drop_eq_nil_of_le (by omega)]
        exact ⟨_, rfl, by simp⟩
  obtain ⟨r, hr, hq⟩ := key FU 0 (Nat.zero_le _) (by have := FU_big; omega)
  rw [show ((0 : Nat) : Int) = 0 from rfl] at hr
  rw [hr, Option.bind_some, hq, List.drop_zero]
theorem i_ConfOk_eq (c : GConf) (hl : c.masters.length < 1048577) : p_i_ConfOk c = some (confG c) := by
  unfold p_i_ConfOk confG
  simp only [within_eq, Option.bind_some, i_SlotOf_eq, contains_eq c c.masters hl (by omega), Bool.not_not]
  by_cases h1 : 1 ≤ (c.masters.length : Int) ∧ (c.masters.length : Int) ≤ 4
  · by_cases h2 : 1 ≤ c.quantum ∧ c.quantum ≤ 4
    · by_cases h3 : 1 ≤ c.maxSplit ∧ c.maxSplit ≤ 12
      · by_cases h4 : slotG c = 0 <;> simp [h1, h2, h3, h4]
      · simp [h1, h2, h3]
    · simp [h1, h2]
  · simp [h1]
theorem s_member (c : GConf) (m : GMConf) (hl : c.masters.length < 1048577) (k : Option Bool) :
    ((p_s_l1In m.weight 1 4).bind fun r1102 =>
    if (!r1102) = true then some false
    else if (!m.prio) = true then
        if decide (m.every ≠ 0) = true then some false
        else if decide (m.cap ≠ 0) = true then some false
          else if m.prio = true then
              (p_s_SlotOf c).bind fun r1128 =>
              (p_s_l1In m.every (mulW (mulW 2 (priosG c : Int)) r1128) 1000).bind fun r1130 =>
              if (!r1130) = true then some false
              else (p_s_l1In m.cap 1 8).bind fun r1135 => if (!r1135) = true then some false else k
            else k
      else if m.prio = true then
          (p_s_SlotOf c).bind fun r1128 =>
          (p_s_l1In m.every (mulW (mulW 2 (priosG c : Int)) r1128) 1000).bind fun r1130 =>
          if (!r1130) = true then some false
          else (p_s_l1In m.cap 1 8).bind fun r1135 => if (!r1135) = true then some false else k
        else k) = if mconfG c m = true then k else some false := by
  have h1 := slotG_le c
  have h2 := every_le c hl
  have h3 := priosG_le c
  have e : mulW (mulW 2 (priosG c : Int)) (slotG c) = 2 * slotG c * priosG c := by
    have e2 : 2 * (priosG c : Int) * slotG c = 2 * (slotG c * (priosG c : Int)) := by rw [Int.mul_assoc, Int.mul_comm (priosG c : Int)]
    rw [mulW_of (a := 2) (by omega) (by omega), mulW_of (by rw [e2]; omega) (by rw [e2]; omega), e2, Int.mul_assoc]
  unfold mconfG
  simp only [l1In_eq, Option.bind_some, s_SlotOf_eq, e]
  by_cases h1 : 1 ≤ m.weight ∧ m.weight ≤ 4
  · by_cases h2 : m.prio = true
    · by_cases h3 : 2 * slotG c * priosG c ≤ m.every ∧ m.every ≤ 1000
      · by_cases h4 : 1 ≤ m.cap ∧ m.cap ≤ 8 <;> simp [h1, h2, h3, h4]
      · simp [h1, h2, h3]
    · by_cases h3 : m.every = 0
      · by_cases h4 : m.cap = 0 <;> simp [h1, h2, h3, h4]
      · simp [h1, h2, h3]
  · simp [h1]
theorem s_ConfOk__L2_eq (c : GConf) (hl : c.masters.length < 1048577) : p_s_ConfOk__L2 c FU (priosG c : Int) 0 = some (confG c) := by
  have key : ∀ (m k : Nat), k ≤ c.masters.length → c.masters.length - k < m → p_s_ConfOk__L2 c m (priosG c : Int) k = some (decide (1 ≤ (c.masters.length : Int) ∧ (c.masters.length : Int) ≤ 4) && decide (1 ≤ c.quantum ∧ c.quantum ≤ 4) && decide (1 ≤ c.maxSplit ∧ c.maxSplit ≤ 12) && decide (slotG c ≠ 0) && (c.masters.drop k).all (mconfG c)) := by
    intro m
    induction m with
    | zero => intro k _ h; omega
    | succ m ih =>
      intro k hk hm
      have e : p_s_ConfOk__L2 c (m + 1) (priosG c : Int) k = p_s_ConfOk__L2b c (p_s_ConfOk__L2 c m) (priosG c : Int) k := rfl
      rw [e]
      unfold p_s_ConfOk__L2b
      by_cases hc : k < c.masters.length
      · have h1 : decide ((k : Int) < (c.masters.length : Int)) = true := by simpa using hc
        rw [if_pos h1, idx_get hc, Option.bind_some, s_member c _ hl, List.drop_eq_getElem_cons hc, List.all_cons, addW_nat (by omega), ih (k + 1) (by omega) (by omega)]
        by_cases hq : mconfG c c.masters[k] = true
        · simp [hq]
        · simp [hq]
      · have h1 : ¬ decide ((k : Int) < (c.masters.length : Int)) = true := by simpa using hc
        rw [if_neg h1, List.drop_eq_nil_of_le (by omega), l1In_eq, Option.bind_some, s_l6Limits_eq]
        by_cases h2 : 1 ≤ (c.masters.length : Int) ∧ (c.masters.length : Int) ≤ 4
        · simp [h2]
        · simp [h2]
  have := key FU 0 (Nat.zero_le _) (by have := FU_big; omega)
  simpa [confG] using this
theorem s_ConfOk_eq (c : GConf) (hl : c.masters.length < 1048577) : p_s_ConfOk c = some (confG c) := by
  unfold p_s_ConfOk
  rw [loop_all c.masters (by omega) (fun (a : GMConf) n => some (.inl (if a.prio = true then addW n 1 else n))) (fun n => p_s_ConfOk__L2 c FU n 0) (p_s_ConfOk__L1 c) (fun m s i => ?_) 0, prios_fold _ _ (by omega) (by omega)]
  · rw [show (0 : Int) + (c.masters.countP (·.prio) : Nat) = (priosG c : Int) by simp [priosG]]
    exact s_ConfOk__L2_eq c hl
  · show p_s_ConfOk__L1b c _ s i = _
    unfold p_s_ConfOk__L1b
    congr 1; congr 1; funext a
    by_cases h : a.prio = true <;> simp [h, goL]
/-- The turn of a master. -/
def weightG (c : GConf) (i : Int) : Int := ((c.masters[i.toNat]?).map (·.weight)).getD 0
def masterG (c : GConf) (i : Int) : Bool := decide (0 ≤ i ∧ i < (c.masters.length : Int))
def turnG (c : GConf) (i : Int) : Int := if confG c = true ∧ masterG c i = true then weightG c i * c.quantum else 0
theorem idx_master {c : GConf} {i : Int} (h : masterG c i = true) : ∃ m, idx c.masters i = some m ∧ m ∈ c.masters ∧ m.weight = weightG c i := by
  simp only [masterG, decide_eq_true_eq] at h
  obtain ⟨k, rfl⟩ : ∃ k : Nat, i = k := ⟨i.toNat, by omega⟩
  have hk : k < c.masters.length := by omega
  refine ⟨c.masters[k], idx_get hk, List.getElem_mem hk, ?_⟩
  simp [weightG, hk]
theorem conf_weight {c : GConf} {m : GMConf} (h : confG c = true) (hm : m ∈ c.masters) : 1 ≤ m.weight ∧ m.weight ≤ 4 := by
  simp only [confG, Bool.and_eq_true, List.all_eq_true] at h
  have := h.2 m hm
  simp only [mconfG, Bool.and_eq_true, decide_eq_true_eq] at this
  exact this.1
theorem conf_quantum {c : GConf} (h : confG c = true) : 1 ≤ c.quantum ∧ c.quantum ≤ 4 := by
  simp only [confG, Bool.and_eq_true, decide_eq_true_eq] at h
  exact h.1.1.1.2
theorem conf_weightG {c : GConf} {i : Int} (h : confG c = true) (hm : masterG c i = true) : 1 ≤ weightG c i ∧ weightG c i ≤ 4 := by
  obtain ⟨m, _, h1, h2⟩ := idx_master hm
  rw [← h2]; exact conf_weight h h1
theorem mul_small {a b : Int} (h1 : 0 ≤ a) (h2 : a ≤ 4) (h3 : 1 ≤ b) (h4 : b ≤ 4) : 0 ≤ a * b ∧ a * b ≤ 16 := by
  have : a = 0 ∨ a = 1 ∨ a = 2 ∨ a = 3 ∨ a = 4 := by omega
  rcases this with rfl | rfl | rfl | rfl | rfl <;> omega
theorem mul_pos4 {a b : Int} (h1 : 1 ≤ a) (h2 : a ≤ 4) (h3 : 1 ≤ b) (h4 : b ≤ 4) : 1 ≤ a * b ∧ a * b ≤ 16 := by
  have : a = 1 ∨ a = 2 ∨ a = 3 ∨ a = 4 := by omega
  rcases this with rfl | rfl | rfl | rfl <;> omega
theorem turnG_pos {c : GConf} {i : Int} (h : confG c = true) (hm : masterG c i = true) : 1 ≤ turnG c i ∧ turnG c i ≤ 16 := by
  unfold turnG
  rw [if_pos ⟨h, hm⟩]
  have h1 := conf_weightG h hm
  have h2 := conf_quantum h
  exact mul_pos4 h1.1 h1.2 h2.1 h2.2
theorem turnG_zero {c : GConf} {i : Int} : turnG c i = 0 ↔ ¬ (confG c = true ∧ masterG c i = true) := by
  constructor
  · intro h hc
    have := turnG_pos hc.1 hc.2
    omega
  · intro h; unfold turnG; rw [if_neg h]
theorem turnG_le (c : GConf) (i : Int) : 0 ≤ turnG c i ∧ turnG c i ≤ 16 := by
  by_cases h : confG c = true ∧ masterG c i = true
  · have := turnG_pos h.1 h.2; omega
  · rw [turnG_zero.2 h]; omega
theorem last_eq {c : GConf} (i : Int) (hl : c.masters.length < 1048577) : decide (0 ≤ i ∧ i ≤ subW (c.masters.length : Int) 1) = masterG c i := by
  rw [subW_of (by omega) (by omega)]
  unfold masterG
  congr 1
  apply propext
  omega
theorem s_TurnOf_eq (c : GConf) (i : Int) (hl : c.masters.length < 1048577) : p_s_TurnOf c i = some (turnG c i) := by
  unfold p_s_TurnOf
  rw [s_ConfOk_eq c hl, Option.bind_some, l1In_eq, Option.bind_some, last_eq i hl]
  unfold p_s_TurnOf__J1
  by_cases h1 : confG c = true
  · by_cases h2 : masterG c i = true
    · obtain ⟨m, hm1, hm2, hm3⟩ := idx_master h2
      have hw := conf_weight h1 hm2
      have hq := conf_quantum h1
      have := mul_pos4 hw.1 hw.2 hq.1 hq.2
      simp only [h1, h2, hm1, Bool.not_true, Bool.false_eq_true, if_false, Option.bind_some]
      rw [mulW_of (by omega) (by omega)]
      simp [turnG, h1, h2, hm3]
    · simp [turnG, h1, h2]
  · simp [turnG, h1]
theorem i_isMaster_eq (c : GConf) (i : Int) (hl : c.masters.length < 1048577) : p_i_isMaster c i = some (masterG c i) := by
  unfold p_i_isMaster
  rw [within_eq, Option.bind_some, last_eq i hl]
theorem i_TurnOf_eq (c : GConf) (i : Int) (hl : c.masters.length < 1048577) : p_i_TurnOf c i = some (turnG c i) := by
  rw [← s_TurnOf_eq c i hl]
  unfold p_i_TurnOf p_s_TurnOf
  rw [s_ConfOk_eq c hl, i_ConfOk_eq c hl, i_isMaster_eq c i hl, l1In_eq, last_eq i hl]
  rfl
theorem i_areTurns_eq (c : GConf) (i j : Int) (hl : c.masters.length < 1048577) : p_i_areTurns c i j = some (decide (turnG c i ≠ 0 ∧ turnG c j ≠ 0)) := by
  have h1 := turnG_le c i
  have h2 := turnG_le c j
  unfold p_i_areTurns
  rw [i_TurnOf_eq c i hl, Option.bind_some, i_TurnOf_eq c j hl, Option.bind_some]
  by_cases h3 : turnG c i = 0
  · simp [h3]
  · have h4 : turnG c i > 0 := by omega
    by_cases h5 : turnG c j = 0
    · simp [h3, h4, h5]
    · have h6 : turnG c j > 0 := by omega
      simp [h3, h4, h5, h6]
/-! ### sizes, copies, comparisons -/
theorem szConf_eq (c : GConf) {left : Int} (h0 : 0 ≤ left) (h1 : left ≤ 1048576) (hn : c.masters.length ≤ 9223372036854775807) : p_w_szConf c left = some (leftI left c.masters.length) := by
  unfold p_w_szConf p_w_szMConfS
  rw [sz_leaf h0 h1 hn, Option.bind_some]
  unfold leftI
  by_cases h : left < (c.masters.length : Int)
  · simp [h]
  · have : ¬ (left - (c.masters.length : Int) < 0) := by omega
    simp [h, this]
theorem toConf_eq (c : GConf) (hl : c.masters.length < 1048577) : p_w_toConf c = some c := by
  unfold p_w_toConf p_w_toMConfS
  rw [mkI_of (by omega) (by omega), Option.bind_some]
  have := map_list c.masters id (by omega) p_w_toMConf (fun a _ => rfl) (p_w_toMConfS__L1 c.masters) (fun m v i => rfl) (List.replicate c.masters.length (GMConf.mk 0 false 0 0)) (by simp)
  rw [this]
  simp
theorem eqMConf_eq (a b : GMConf) : p_w_eqMConf a b = some (decide (a = b)) := by
  obtain ⟨a1, a2, a3, a4⟩ := a
  obtain ⟨b1, b2, b3, b4⟩ := b
  unfold p_w_eqMConf
  simp only [GMConf.mk.injEq, decide_eq_true_eq, ne_eq, bne_iff_ne]
  by_cases h1 : a1 = b1 <;> simp [h1]
  by_cases h2 : a2 = b2 <;> simp [h2]
  by_cases h3 : a3 = b3 <;> simp [h3]
  by_cases h4 : a4 = b4 <;> simp [h4]
theorem eqMConfS_eq (xs ys : List GMConf) (hl : xs.length < 4611686018427387904) : p_w_eqMConfS xs ys = some (decide (xs = ys)) := by
  unfold p_w_eqMConfS
  refine eq_listM xs ys hl (fun a b => (p_w_eqMConf a b).bind fun r => if (!r) = true then some (some false) else some none) (p_w_eqMConfS__L1 xs ys) (fun m i => ?_) (fun a b _ _ => ?_)
  · show p_w_eqMConfS__L1b xs ys _ i = _
    unfold p_w_eqMConfS__L1b
    congr 1; congr 1; funext a; congr 1; funext b
    cases hp : p_w_eqMConf a b with
    | none => rfl
    | some r => cases r <;> simp [nextE]
  · rw [eqMConf_eq]
    by_cases h : a = b <;> simp [h]
theorem eqConf_eq (a b : GConf) (hl : a.masters.length < 4611686018427387904) : p_w_eqConf a b = some (decide (a = b)) := by
  obtain ⟨a1, a2, a3, a4, a5, a6⟩ := a
  obtain ⟨b1, b2, b3, b4, b5, b6⟩ := b
  unfold p_w_eqConf
  simp only
  rw [eqMConfS_eq a1 b1 hl, Option.bind_some]
  simp only [GConf.mk.injEq, decide_eq_true_eq, ne_eq, bne_iff_ne]
  by_cases h1 : a1 = b1 <;> simp [h1]
  by_cases h2 : a2 = b2 <;> simp [h2]
  by_cases h3 : a3 = b3 <;> simp [h3]
  by_cases h4 : a4 = b4 <;> simp [h4]
  by_cases h5 : a5 = b5 <;> simp [h5]
  by_cases h6 : a6 = b6 <;> simp [h6]
theorem ok_conf {c : GConf} (h : c.ok) : c.masters.length ≤ 9223372036854775807 := by
  have := h.1.1
  unfold maxLen at this
  omega
end Go.Proofs.Ytolbhpampnjinaa.Ev
