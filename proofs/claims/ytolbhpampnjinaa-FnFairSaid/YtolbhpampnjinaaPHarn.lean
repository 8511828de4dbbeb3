/- What the laws do around each call: sizes, copies, comparisons of numbers, requests, posts, scripts. No condition but those in each line. -/
import Derived.Test.YtolbhpampnjinaaPL
namespace Go.Proofs.Ytolbhpampnjinaa.Ev
open Go Go.Proofs
set_option linter.unusedVariables false
set_option linter.unusedSimpArgs false
theorem eq_listM {α : Type} [DecidableEq α] (xs ys : List α) (hl : xs.length < 4611686018427387904) (e : α → α → Option (Option Bool)) (L : Nat → Int → Option Bool)
    (hL : ∀ m i, L (m + 1) i = if decide (i < (xs.length : Int)) = true then (idx xs i).bind fun a => (idx ys i).bind fun b => (e a b).bind (nextE (L m (addW i 1))) else some true)
    (he : ∀ a b, a ∈ xs → b ∈ ys → e a b = some (if a = b then none else some false)) :
    (if decide ((xs.length : Int) ≠ (ys.length : Int)) = true then some false else L FU 0) = some (decide (xs = ys)) := by
  by_cases hxy : xs.length = ys.length
  · have h1 : ¬ decide ((xs.length : Int) ≠ (ys.length : Int)) = true := by simp [hxy]
    rw [if_neg h1]
    have := loop_zip xs ys hl hxy e true L hL (fun a b => decide (a = b)) false (fun a b ha hb => by rw [he a b ha hb]; by_cases h : a = b <;> simp [h]) FU 0 (Nat.zero_le _) (by have := FU_big; omega)
    simp only [List.drop_zero] at this
    rw [zip_all_eq hxy] at this
    rw [show ((0 : Nat) : Int) = 0 from rfl] at this
    rw [this]
    by_cases h : xs = ys <;> simp [h]
  · have h1 : decide ((xs.length : Int) ≠ (ys.length : Int)) = true := by simp; omega
    rw [if_pos h1]
    have : xs ≠ ys := fun h => hxy (by rw [h])
    simp [this]
/-- What is left behind so many. -/
def leftI (left : Int) (n : Nat) : Int := if left < (n : Int) then -1 else left - n
theorem sz_leaf {n : Nat} {left : Int} (h0 : 0 ≤ left) (h1 : left ≤ 1048576) (hn : n ≤ 9223372036854775807) : (if decide ((subW left (n : Int)) < 0) = true then some (-1) else some (subW left (n : Int))) = some (leftI left n) := by
  rw [subW_of (by omega) (by omega)]
  unfold leftI
  by_cases h : left < (n : Int)
  · rw [if_pos (by simpa using (by omega : left - (n : Int) < 0)), if_pos h]
  · rw [if_neg (by simpa using (by omega : ¬ (left - (n : Int) < 0))), if_neg h]
theorem leftI_neg {left : Int} {n : Nat} (h0 : 0 ≤ left) : (leftI left n < 0) ↔ left < (n : Int) := by unfold leftI; split <;> omega
theorem leftI_add {left : Int} {a b : Nat} (h0 : 0 ≤ left) : (if decide (leftI left a < 0) = true then (-1 : Int) else leftI (leftI left a) b) = leftI left (a + b) := by
  unfold leftI
  by_cases h : left < (a : Int)
  · simp [h]; omega
  · have h2 : ¬ (left - (a : Int) < 0) := by omega
    simp only [h, if_false, h2, decide_false, Bool.false_eq_true]
    by_cases h3 : left - (a : Int) < b
    · rw [if_pos h3, if_pos (by omega)]
    · rw [if_neg h3, if_neg (by omega)]; omega
theorem szIntS_eq (xs : List Int) {left : Int} (h0 : 0 ≤ left) (h1 : left ≤ 1048576) (hn : xs.length ≤ 9223372036854775807) : p_w_szIntS xs left = some (leftI left xs.length) := by
  unfold p_w_szIntS; exact sz_leaf h0 h1 hn
theorem eqIntS_eq (xs ys : List Int) (hl : xs.length < 4611686018427387904) : p_w_eqIntS xs ys = some (decide (xs = ys)) := by
  unfold p_w_eqIntS
  refine eq_listM xs ys hl (fun a b => if decide (a ≠ b) = true then some (some false) else some none) (p_w_eqIntS__L1 xs ys) (fun m i => ?_) (fun a b _ _ => ?_)
  · show p_w_eqIntS__L1b xs ys _ i = _
    unfold p_w_eqIntS__L1b
    congr 1; congr 1; funext a; congr 1; funext b
    by_cases h : a = b <;> simp [h, nextE]
  · by_cases h : a = b <;> simp [h]
theorem toIntS_eq (xs : List Int) (hl : xs.length < 1048577) : p_w_toIntS xs = some xs := by
  unfold p_w_toIntS
  rw [mkI_of (by omega) (by omega), Option.bind_some]
  have := map_list xs id (by omega) some (fun a _ => rfl) (p_w_toIntS__L1 xs) (fun m v i => rfl) (List.replicate xs.length 0) (by simp)
  simpa using this
theorem heldIntS_eq (xs : List Int) (k : Int) (hl : xs.length < 1048577) (h0 : 0 ≤ k) (h1 : k ≤ 16777216) : p_w_heldIntS xs k = some (if xs = (List.range xs.length).map (fun i : Nat => k + (i : Int)) then k + xs.length else -1) := by
  have key : ∀ (m j : Nat), j ≤ xs.length → xs.length - j < m → xs.take j = (List.range j).map (fun i : Nat => k + (i : Int)) → p_w_heldIntS__L1 xs k m (k + j) j = some (if xs = (List.range xs.length).map (fun i : Nat => k + (i : Int)) then k + xs.length else -1) := by
    intro m
    induction m with
    | zero => intro j _ h; omega
    | succ m ih =>
      intro j hj hm ht
      show p_w_heldIntS__L1b xs k _ (k + j) j = _
      unfold p_w_heldIntS__L1b
      by_cases hc : j < xs.length
      · have h2 : decide ((j : Int) < (xs.length : Int)) = true := by simpa using hc
        rw [if_pos h2, idx_get hc, Option.bind_some]
        by_cases he : xs[j] = k + j
        · have h3 : ¬ decide (xs[j] ≠ k + (j : Int)) = true := by simp [he]
          rw [if_neg h3, addW_nat (by omega), addW_of (by omega) (by omega)]
          have := ih (j + 1) (by omega) (by omega) (by rw [List.take_add_one, List.getElem?_eq_getElem hc, List.range_succ, List.map_append, ht, he]; rfl)
          rw [show k + ((j + 1 : Nat) : Int) = k + j + 1 by omega] at this
          exact this
        · have h3 : decide (xs[j] ≠ k + (j : Int)) = true := by simp [he]
          rw [if_pos h3, if_neg]
          intro hx
          apply he
          have h4 : xs[j]? = ((List.range xs.length).map (fun i : Nat => k + (i : Int)))[j]? := by rw [← hx]
          rw [List.getElem?_eq_getElem hc, List.getElem?_map, List.getElem?_range hc] at h4
          simpa using h4
      · have h2 : ¬ decide ((j : Int) < (xs.length : Int)) = true := by simpa using hc
        rw [if_neg h2]
        have hj2 : j = xs.length := by omega
        subst hj2
        rw [List.take_length] at ht
        rw [if_pos ht]
  have := key FU 0 (Nat.zero_le _) (by have := FU_big; omega) (by simp)
  simpa [p_w_heldIntS] using this
theorem markIntS_eq (xs : List Int) (k : Int) (hl : xs.length < 1048577) (h0 : 0 ≤ k) (h1 : k ≤ 16777216) : p_w_markIntSq xs k = some (k + xs.length, (List.range xs.length).map (fun i : Nat => k + (i : Int))) := by
  have key : ∀ (m j : Nat) (ys : List Int), j ≤ xs.length → xs.length - j < m → ys.length = xs.length → ys.take j = (List.range j).map (fun i : Nat => k + (i : Int)) → p_w_markIntSq__L1 xs k m ys (k + j) j = some (k + xs.length, (List.range xs.length).map (fun i : Nat => k + (i : Int))) := by
    intro m
    induction m with
    | zero => intro j _ _ h; omega
    | succ m ih =>
      intro j ys hj hm hy ht
      show p_w_markIntSq__L1b xs k _ ys (k + j) j = _
      unfold p_w_markIntSq__L1b
      by_cases hc : j < ys.length
      · have h2 : decide ((j : Int) < (ys.length : Int)) = true := by simpa using hc
        rw [if_pos h2, idx_get hc, Option.bind_some]
        simp only [setO, Option.bind_some]
        rw [addW_nat (by omega), addW_of (by omega) (by omega)]
        have := ih (j + 1) (ys.set j (k + j)) (by omega) (by omega) (by simp [hy]) (by rw [List.take_add_one, List.take_set_of_le (Nat.le_refl _), ht, List.getElem?_set_self hc, List.range_succ, List.map_append]; rfl)
        rw [show k + ((j + 1 : Nat) : Int) = k + j + 1 by omega] at this
        exact this
      · have h2 : ¬ decide ((j : Int) < (ys.length : Int)) = true := by simpa using hc
        rw [if_neg h2]
        have hj2 : j = xs.length := by omega
        rw [List.take_of_length_le (by omega)] at ht
        subst ht
        subst hj2
        simp [lenE]
  have := key FU 0 xs (Nat.zero_le _) (by have := FU_big; omega) rfl (by simp)
  simpa [p_w_markIntSq] using this
theorem markIntS_nil (k : Int) : p_w_markIntS [] k = some (k, []) := rfl
end Go.Proofs.Ytolbhpampnjinaa.Ev
