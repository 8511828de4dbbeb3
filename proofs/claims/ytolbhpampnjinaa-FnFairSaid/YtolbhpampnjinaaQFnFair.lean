/- FnFair over data: it answers true. No condition but those in each line. -/
import Derived.Test.YtolbhpampnjinaaPServed
namespace Go.Proofs.Ytolbhpampnjinaa.Ev
open Go Go.Proofs Go.RowKit
set_option linter.unusedVariables false
set_option linter.unusedSimpArgs false
def wrrG (w : GWrr) (c : GConf) : Bool := confG c && (masterG c w.at_ && decide (0 ≤ w.credit ∧ w.credit ≤ turnG c w.at_))
theorem s_WrrOk_eq (w : GWrr) (c : GConf) (hl : c.masters.length < 1048577) : p_s_WrrOk w c = some (wrrG w c) := by
  unfold p_s_WrrOk wrrG
  rw [s_ConfOk_eq c hl, Option.bind_some, l1In_eq, Option.bind_some, last_eq _ hl, s_TurnOf_eq c _ hl, Option.bind_some, l1In_eq, Option.bind_some]
  by_cases h1 : confG c = true <;> by_cases h2 : masterG c w.at_ = true <;> simp [h1, h2]
theorem i_WrrOk_eq (w : GWrr) (c : GConf) (hl : c.masters.length < 1048577) : p_i_WrrOk w c = some (wrrG w c) := by
  unfold p_i_WrrOk wrrG
  rw [i_ConfOk_eq c hl, Option.bind_some, i_isMaster_eq c _ hl, Option.bind_some, i_TurnOf_eq c _ hl, Option.bind_some, within_eq, Option.bind_some]
  by_cases h1 : confG c = true <;> by_cases h2 : masterG c w.at_ = true <;> simp [h1, h2]
theorem conf_len {c : GConf} (h : confG c = true) : 1 ≤ (c.masters.length : Int) ∧ (c.masters.length : Int) ≤ 4 := by
  simp only [confG, Bool.and_eq_true, decide_eq_true_eq] at h
  exact h.1.1.1.1
/-- The next one, where all want. -/
def nextG (c : GConf) (w : GWrr) : GWrr := if 0 < w.credit then GWrr.mk w.at_ (w.credit - 1) else GWrr.mk ((w.at_ + 1) % (c.masters.length : Int)) (turnG c ((w.at_ + 1) % (c.masters.length : Int)) - 1)
theorem idx_rep {n : Nat} {i : Int} (h0 : 0 ≤ i) (h1 : i < (n : Int)) : idx (List.replicate n true) i = some true := by
  obtain ⟨k, rfl⟩ : ∃ k : Nat, i = k := ⟨i.toNat, by omega⟩
  have hk : k < n := by omega
  rw [idx_get (by simpa using hk)]
  simp
theorem next_at {c : GConf} {w : GWrr} (hc : confG c = true) : 0 ≤ (w.at_ + 1) % (c.masters.length : Int) ∧ (w.at_ + 1) % (c.masters.length : Int) < (c.masters.length : Int) := by
  have := conf_len hc
  exact ⟨Int.emod_nonneg _ (by omega), Int.emod_lt_of_pos _ (by omega)⟩
theorem pick_eq (w : GWrr) (c : GConf) (h : wrrG w c = true) (hl : c.masters.length < 1048577) : p_i_WrrPick w c (List.replicate c.masters.length true) = some (nextG c w, (nextG c w).at_) := by
  have h0 := h
  simp only [wrrG, masterG, Bool.and_eq_true, decide_eq_true_eq] at h
  obtain ⟨hc, hm, hk⟩ := h
  have hlen := conf_len hc
  have ht := turnG_le c w.at_
  unfold p_i_WrrPick
  rw [i_WrrOk_eq w c hl, Option.bind_some, h0]
  simp only [Bool.not_true, Bool.false_eq_true, if_false]
  unfold p_i_WrrPick__J2
  rw [if_neg (by simp)]
  by_cases hcr : 0 < w.credit
  · rw [if_pos (by simpa using hcr), idx_rep hm.1 hm.2, Option.bind_some]
    unfold p_i_WrrPick__J3
    rw [if_pos rfl, subW_of (by omega) (by omega)]
    simp [nextG, hcr]
  · rw [if_neg (by simpa using hcr)]
    unfold p_i_WrrPick__J3
    rw [if_neg (by simp)]
    have hn := next_at (w := w) hc
    have hn2 : masterG c ((w.at_ + 1) % (c.masters.length : Int)) = true := by simpa [masterG] using hn
    have htn := turnG_pos hc hn2
    show p_i_WrrPick__L1b w c _ _ 1 = _
    unfold p_i_WrrPick__L1b
    rw [if_pos (by simpa using hlen.1), nzI_of (by omega), Option.bind_some, addW_of (by omega) (by omega)]
    have er : remW (w.at_ + 1) (c.masters.length : Int) = (w.at_ + 1) % (c.masters.length : Int) := by
      unfold remW; rw [Int.tmod_eq_emod_of_nonneg (by omega)]
    rw [er, idx_rep hn.1 hn.2, Option.bind_some, if_pos rfl, i_TurnOf_eq c _ hl, Option.bind_some, subW_of (by omega) (by omega)]
    simp [nextG, hcr]
theorem next_ok {w : GWrr} {c : GConf} (h : wrrG w c = true) : wrrG (nextG c w) c = true := by
  simp only [wrrG, masterG, Bool.and_eq_true, decide_eq_true_eq] at h ⊢
  obtain ⟨hc, hm, hk⟩ := h
  have hn := next_at (w := w) hc
  have hn2 : masterG c ((w.at_ + 1) % (c.masters.length : Int)) = true := by simpa [masterG] using hn
  have htn := turnG_pos hc hn2
  refine ⟨hc, ?_⟩
  unfold nextG
  split
  · exact ⟨hm, by simp; omega⟩
  · exact ⟨hn, by simp; omega⟩
/-! ### the account -/
def rankG (c : GConf) (i : Int) : Int := (i + (c.masters.length : Int) - 1) % (c.masters.length : Int)
def owedG (c : GConf) (w : GWrr) (i : Int) : Int := if rankG c i < rankG c w.at_ then 0 else if i = w.at_ then w.credit else turnG c i
def FairI (c : GConf) (w : GWrr) (S : Int → Int) : Prop := ∃ R : Int, ∀ i, masterG c i = true → S i = turnG c i * R - owedG c w i
theorem owedG_le {c : GConf} {w : GWrr} (h : wrrG w c = true) (i : Int) : 0 ≤ owedG c w i ∧ owedG c w i ≤ turnG c i := by
  simp only [wrrG, masterG, Bool.and_eq_true, decide_eq_true_eq] at h
  have := turnG_le c i
  unfold owedG
  split
  · omega
  · split
    · rename_i h1; subst h1; omega
    · omega
theorem fair_start {c : GConf} (hc : confG c = true) : FairI c (GWrr.mk 0 0) (fun _ => 0) := by
  refine ⟨0, fun i hi => ?_⟩
  have hlen := conf_len hc
  simp only [masterG, decide_eq_true_eq] at hi
  unfold owedG rankG
  simp only
  generalize (c.masters.length : Int) = n at *
  have : n = 1 ∨ n = 2 ∨ n = 3 ∨ n = 4 := by omega
  split
  · omega
  · rename_i h1
    have : i = 0 := by rcases this with rfl | rfl | rfl | rfl <;> omega
    rw [if_pos this]
    omega
theorem fair_step {c : GConf} {w : GWrr} {S : Int → Int} (h : wrrG w c = true) (hf : FairI c w S) : FairI c (nextG c w) (fun i => S i + if (nextG c w).at_ = i then 1 else 0) := by
  simp only [wrrG, masterG, Bool.and_eq_true, decide_eq_true_eq] at h
  obtain ⟨hc, hm, hk⟩ := h
  have hlen := conf_len hc
  obtain ⟨R, hR⟩ := hf
  unfold nextG
  by_cases hcr : 0 < w.credit
  · rw [if_pos hcr]
    refine ⟨R, fun i hi => ?_⟩
    have h1 := hR i hi
    unfold owedG at h1 ⊢
    simp only at h1 ⊢
    by_cases hi2 : i = w.at_
    · subst hi2
      simp only [Int.lt_irrefl, if_false, if_true] at h1 ⊢
      omega
    · have : ¬ w.at_ = i := fun h => hi2 h.symm
      simp only [hi2, this, if_false] at h1 ⊢
      omega
  · rw [if_neg hcr]
    have hcr0 : w.credit = 0 := by omega
    by_cases hw : rankG c w.at_ = (c.masters.length : Int) - 1
    · refine ⟨R + 1, fun i hi => ?_⟩
      have h1 := hR i hi
      simp only [masterG, decide_eq_true_eq] at hi
      have e : owedG c w i = 0 := by
        unfold owedG
        split
        · rfl
        · rename_i h2
          have : i = w.at_ := by
            rw [hw] at h2
            unfold rankG at h2 hw
            generalize (c.masters.length : Int) = n at *
            have : n = 1 ∨ n = 2 ∨ n = 3 ∨ n = 4 := by omega
            rcases this with rfl | rfl | rfl | rfl <;> omega
          rw [if_pos this, hcr0]
      rw [e] at h1
      have e2 : owedG c (GWrr.mk ((w.at_ + 1) % (c.masters.length : Int)) (turnG c ((w.at_ + 1) % (c.masters.length : Int)) - 1)) i = if (w.at_ + 1) % (c.masters.length : Int) = i then turnG c i - 1 else turnG c i := by
        unfold owedG
        simp only
        have hr : ¬ rankG c i < rankG c ((w.at_ + 1) % (c.masters.length : Int)) := by
          unfold rankG at hw ⊢
          generalize (c.masters.length : Int) = n at *
          have : n = 1 ∨ n = 2 ∨ n = 3 ∨ n = 4 := by omega
          rcases this with rfl | rfl | rfl | rfl <;> omega
        rw [if_neg hr]
        by_cases hi2 : i = (w.at_ + 1) % (c.masters.length : Int)
        · rw [if_pos hi2, if_pos hi2.symm, ← hi2]
        · rw [if_neg hi2, if_neg (fun h => hi2 h.symm)]
      rw [e2, Int.mul_add]
      simp only
      split <;> omega
    · refine ⟨R, fun i hi => ?_⟩
      have h1 := hR i hi
      simp only [masterG, decide_eq_true_eq] at hi
      have hr : rankG c ((w.at_ + 1) % (c.masters.length : Int)) = rankG c w.at_ + 1 ∧ (w.at_ + 1) % (c.masters.length : Int) ≠ w.at_ := by
        unfold rankG at hw ⊢
        generalize (c.masters.length : Int) = n at *
        have : n = 1 ∨ n = 2 ∨ n = 3 ∨ n = 4 := by omega
        rcases this with rfl | rfl | rfl | rfl <;> omega
      have hir : rankG c i = rankG c w.at_ → i = w.at_ := by
        unfold rankG
        generalize (c.masters.length : Int) = n at *
        have : n = 1 ∨ n = 2 ∨ n = 3 ∨ n = 4 := by omega
        rcases this with rfl | rfl | rfl | rfl <;> omega
      unfold owedG at h1 ⊢
      simp only at h1 ⊢
      rw [hr.1]
      by_cases hi2 : i = w.at_
      · subst hi2
        rw [if_neg (Int.lt_irrefl _), if_pos rfl] at h1
        rw [if_neg hr.2, if_pos (show rankG c w.at_ < rankG c w.at_ + 1 by omega)]
        omega
      · by_cases hi3 : i = (w.at_ + 1) % (c.masters.length : Int)
        · have hri : rankG c i = rankG c w.at_ + 1 := by rw [hi3]; exact hr.1
          rw [if_neg (by omega), if_neg hi2] at h1
          rw [if_pos hi3.symm, if_neg (show ¬ rankG c i < rankG c w.at_ + 1 by omega), if_pos hi3, ← hi3]
          omega
        · rw [if_neg (fun h => hi3 h.symm)]
          by_cases hlt : rankG c i < rankG c w.at_
          · rw [if_pos hlt] at h1
            rw [if_pos (by omega)]
            omega
          · have hne : rankG c i ≠ rankG c w.at_ := fun h => hi2 (hir h)
            rw [if_neg hlt, if_neg hi2] at h1
            rw [if_neg (by omega), if_neg hi3]
            omega
theorem fair_apart {c : GConf} {w : GWrr} {l : List GDone} (h : wrrG w c = true) (hf : FairI c w (fun i => (servedF l i : Int))) (hd : l.length < 4000) (i j : Int) (hi : masterG c i = true) (hj : masterG c j = true) : apartG c l i j ≤ turnG c i * weightG c j + weightG c i + weightG c j := by
  obtain ⟨R, hR⟩ := hf
  have hc : confG c = true := by
    simp only [wrrG, Bool.and_eq_true] at h; exact h.1
  have ei := hR i hi
  have ej := hR j hj
  have oi := owedG_le h i
  have oj := owedG_le h j
  have wi := conf_weightG hc hi
  have wj := conf_weightG hc hj
  have ti : turnG c i = weightG c i * c.quantum := by unfold turnG; rw [if_pos ⟨hc, hi⟩]
  have tj : turnG c j = weightG c j * c.quantum := by unfold turnG; rw [if_pos ⟨hc, hj⟩]
  have si := servedF_le l i
  have sj := servedF_le l j
  have e : (servedF l i : Int) * weightG c j - (servedF l j : Int) * weightG c i = owedG c w j * weightG c i - owedG c w i * weightG c j := by
    simp only at ei ej
    rw [ei, ej, Int.sub_mul, Int.sub_mul, ti, tj]
    have : weightG c i * c.quantum * R * weightG c j = weightG c j * c.quantum * R * weightG c i := by
      rw [Int.mul_comm (weightG c i * c.quantum * R), Int.mul_comm (weightG c j * c.quantum * R), ← Int.mul_assoc, ← Int.mul_assoc, ← Int.mul_assoc, ← Int.mul_assoc, Int.mul_comm (weightG c j) (weightG c i)]
    rw [this]
    omega
  have b1 : owedG c w j * weightG c i ≤ turnG c j * weightG c i := Int.mul_le_mul_of_nonneg_right oj.2 (by omega)
  have b2 : owedG c w i * weightG c j ≤ turnG c i * weightG c j := Int.mul_le_mul_of_nonneg_right oi.2 (by omega)
  have b3 : 0 ≤ owedG c w j * weightG c i := Int.mul_nonneg oj.1 (by omega)
  have b4 : 0 ≤ owedG c w i * weightG c j := Int.mul_nonneg oi.1 (by omega)
  have b5 : turnG c j * weightG c i = turnG c i * weightG c j := by
    rw [ti, tj, Int.mul_assoc, Int.mul_assoc, Int.mul_comm c.quantum, Int.mul_comm c.quantum, ← Int.mul_assoc, ← Int.mul_assoc, Int.mul_comm (weightG c j)]
  have b6 : 0 ≤ (servedF l i : Int) * weightG c j ∧ (servedF l i : Int) * weightG c j ≤ 16000 := by
    refine ⟨Int.mul_nonneg (by omega) (by omega), ?_⟩
    have : (servedF l i : Int) * weightG c j ≤ 4000 * weightG c j := Int.mul_le_mul_of_nonneg_right (by omega) (by omega)
    omega
  have b7 : 0 ≤ (servedF l j : Int) * weightG c i ∧ (servedF l j : Int) * weightG c i ≤ 16000 := by
    refine ⟨Int.mul_nonneg (by omega) (by omega), ?_⟩
    have : (servedF l j : Int) * weightG c i ≤ 4000 * weightG c i := Int.mul_le_mul_of_nonneg_right (by omega) (by omega)
    omega
  unfold apartG
  rw [mulW_of (by omega) (by omega), mulW_of (by omega) (by omega), subW_of (by omega) (by omega)]
  have e3 : negW ((servedF l i : Int) * weightG c j - (servedF l j : Int) * weightG c i) = (servedF l j : Int) * weightG c i - (servedF l i : Int) * weightG c j := by
    unfold negW; rw [wrap64 (by omega) (by omega)]; omega
  rw [e3]
  unfold maxI
  split <;> omega
theorem at_ok (x : List Int) (h : ∀ y ∈ x, (Lit.int .u8 y).wf = true) (hl : x.length < 1048577) : ∃ r, p_w_at x 0 = some r ∧ 0 ≤ r ∧ r ≤ 255 := by
  unfold p_w_at
  by_cases hx : (0 : Int) < (x.length : Int)
  · rw [if_pos (by simpa using hx)]
    obtain ⟨a, ha, hm⟩ := idx_in (xs := x) (i := 0) (by omega) hx
    rw [ha, Option.bind_some]
    have := h a hm
    simp [Lit.wf, IntKind.min, IntKind.max, IntKind.signed, IntKind.bits] at this
    rw [w64_of (by omega) (by omega)]
    exact ⟨_, rfl, by omega, by omega⟩
  · rw [if_neg (by simpa using hx)]
    have : (x.length : Int) = 0 := by omega
    rw [this]
    exact ⟨_, rfl, by decide, by decide⟩
section
variable (x : List Int) (c : GConf) (hc : confG c = true) (hl : c.masters.length < 1048577)
include hc hl
theorem L4_ok (kL3 : GConf → (List GDone) → (List Bool) → Int → Option Bool) (l : List GDone) (w : GWrr) (hw : wrrG w c = true) (hf : FairI c w (fun i => (servedF l i : Int))) (hd : l.length < 4000) (i : Int) (hi : masterG c i = true)
    (hk : kL3 c l (List.replicate c.masters.length true) (addW i 1) = some true) : ∀ (m k : Nat), k ≤ c.masters.length → c.masters.length - k < m → p_w_FnFair__L4 x kL3 m c l (List.replicate c.masters.length true) i k = some true := by
  intro m
  induction m with
  | zero => intro k _ h; omega
  | succ m ih =>
    intro k hk1 hm
    show p_w_FnFair__L4b x kL3 (p_w_FnFair__L4 x kL3 m) c l _ i k = _
    unfold p_w_FnFair__L4b
    rw [List.length_replicate]
    by_cases hk2 : k < c.masters.length
    · have hj : masterG c (k : Int) = true := by simp [masterG]; omega
      rw [if_pos (by simpa using hk2), i_Spread_val c l i k hc hi hj hl (by omega), Option.bind_some, i_SpreadMost_val c i k hc hi hj hl, Option.bind_some, s_Spread_val c l i k hc hi hj hl (by omega), Option.bind_some]
      have := fair_apart hw hf hd i k hi hj
      rw [if_neg (by simp; omega), Option.bind_some, if_neg (by simp), addW_nat (by omega)]
      exact ih (k + 1) (by omega) (by omega)
    · rw [if_neg (by simpa using hk2)]
      exact hk
theorem L3_ok (l : List GDone) (w : GWrr) (hw : wrrG w c = true) (hf : FairI c w (fun i => (servedF l i : Int))) (hd : l.length < 4000) : ∀ (m k : Nat), k ≤ c.masters.length → c.masters.length - k < m → p_w_FnFair__L3 x m c l (List.replicate c.masters.length true) k = some true := by
  intro m
  induction m with
  | zero => intro k _ h; omega
  | succ m ih =>
    intro k hk1 hm
    show p_w_FnFair__L3b x (p_w_FnFair__L3 x m) c l _ k = _
    unfold p_w_FnFair__L3b
    by_cases hk2 : k < c.masters.length
    · have hj : masterG c (k : Int) = true := by simp [masterG]; omega
      rw [if_pos (by simpa using hk2)]
      refine L4_ok x c hc hl _ l w hw hf hd k hj ?_ FU 0 (Nat.zero_le _) (by have := FU_big; omega)
      rw [addW_nat (by omega)]
      exact ih (k + 1) (by omega) (by omega)
    · rw [if_neg (by simpa using hk2)]
theorem L2_ok (hx : x.length < 1048577) (hb : ∀ y ∈ x, (Lit.int .u8 y).wf = true) : ∀ (m k : Nat) (w : GWrr) (l : List GDone), 400 - k < m → l.length = k → k ≤ 315 → wrrG w c = true → FairI c w (fun i => (servedF l i : Int)) → p_w_FnFair__L2 x m w c l (List.replicate c.masters.length true) k = some true := by
  intro m
  induction m with
  | zero => intro k _ _ h; omega
  | succ m ih =>
    intro k w l hm hlk hk1 hw hf
    show p_w_FnFair__L2b x (p_w_FnFair__L2 x m) w c l _ k = _
    unfold p_w_FnFair__L2b
    obtain ⟨r, hr, r0, r1⟩ := at_ok x hb hx
    rw [hr, Option.bind_some, addW_of (by omega) (by omega)]
    by_cases hk2 : (k : Int) < 60 + r
    · rw [if_pos (by simpa using hk2), pick_eq w c hw hl, Option.bind_some]
      have hn := next_ok hw
      have hn2 := hn
      simp only [wrrG, masterG, Bool.and_eq_true, decide_eq_true_eq] at hn2
      simp only
      rw [if_neg (by simp; omega), if_neg (by simp; omega), s_WrrOk_eq _ _ hl, Option.bind_some, hn]
      unfold p_w_FnFair__J5
      rw [if_neg (by simp), appI_of (by simp; omega) (by simp; omega), Option.bind_some, addW_nat (by omega)]
      refine ih (k + 1) (nextG c w) _ (by omega) (by simp [hlk]) (by omega) hn ?_
      have := fair_step hw hf
      refine cast ?_ this
      congr 1
      funext i
      rw [servedF_add _ _ _ _ (by omega) (by omega)]
      split <;> simp
    · rw [if_neg (by simpa using hk2)]
      exact L3_ok x c hc hl l w hw hf (by omega) FU 0 (Nat.zero_le _) (by have := FU_big; omega)
theorem L1_ok (hx : x.length < 1048577) (hb : ∀ y ∈ x, (Lit.int .u8 y).wf = true) (w0 : GWrr) : ∀ (m k : Nat) (v : List Bool), k ≤ c.masters.length → c.masters.length - k < m → v.length = c.masters.length → v.take k = List.replicate k true → p_w_FnFair__L1 x m w0 c v k = some true := by
  have hlen := conf_len hc
  intro m
  induction m with
  | zero => intro k _ _ h; omega
  | succ m ih =>
    intro k v hk hm hv ht
    show p_w_FnFair__L1b x (p_w_FnFair__L1 x m) w0 c v k = _
    unfold p_w_FnFair__L1b
    by_cases hk2 : k < v.length
    · rw [if_pos (by simpa using hk2), idx_get hk2, Option.bind_some, setO_of, Option.bind_some, addW_nat (by omega)]
      refine ih (k + 1) _ (by omega) (by omega) (by simpa using hv) ?_
      rw [Int.toNat_natCast, List.take_add_one, List.take_set_of_le (Nat.le_refl _), ht, List.getElem?_set_self hk2, List.replicate_succ']
      rfl
    · rw [if_neg (by simpa using hk2)]
      rw [List.take_of_length_le (by omega)] at ht
      have hk3 : k = c.masters.length := by omega
      rw [ht, hk3]
      refine L2_ok x c hc hl hx hb FU 0 (GWrr.mk 0 0) [] (by have := FU_big; omega) rfl (by omega) ?_ (fair_start hc)
      have h1 : masterG c 0 = true := by simp [masterG]; omega
      have := turnG_le c 0
      simp [wrrG, hc, h1, this.1]
end
theorem law_w_FnFair (x : List Int) (h : x.length ≤ maxLen ∧ ∀ y ∈ x, (Lit.int .u8 y).wf = true) : p_w_FnFair x = some true := by
  unfold p_w_FnFair p_w_big
  rw [Option.bind_some]
  by_cases hc : (x.length : Int) > 1048576
  · rw [if_pos (by simpa using hc)]
  · rw [if_neg (by simpa using hc)]
    obtain ⟨w, c, e, hl⟩ := DrawWrrOk_ok x (by omega)
    have hl2 : c.masters.length < 1048577 := by omega
    rw [e, Option.bind_some, s_WrrOk_eq w c hl2, Option.bind_some, i_WrrOk_eq w c hl2, Option.bind_some]
    by_cases hw : wrrG w c = true
    · have hcf : confG c = true := by simp only [wrrG, Bool.and_eq_true] at hw; exact hw.1
      simp only [hw, Bool.not_true, Bool.false_eq_true, if_false]
      rw [mkI_of (by omega) (by omega), Option.bind_some]
      exact L1_ok x c hcf (by omega) (by omega) h.2 w FU 0 _ (Nat.zero_le _) (by have := FU_big; omega) (by simp) (by simp)
    · simp [hw]
end Go.Proofs.Ytolbhpampnjinaa.Ev
