/- Lists of waves: sizes, copies, comparisons, counts. No condition but those in each line. -/
import Derived.Test.YtolbhpampnjinaaPL
namespace Go.Proofs.Ytolbhpampnjinaa.Ev
open Go Go.Proofs
set_option linter.unusedVariables false
set_option linter.unusedSimpArgs false
theorem eqWave_eq (a b : GWave) : p_w_eqWave a b = some (decide (a = b)) := by
  obtain ⟨a1, a2, a3, a4, a5, a6, a7, a8, a9⟩ := a
  obtain ⟨b1, b2, b3, b4, b5, b6, b7, b8, b9⟩ := b
  unfold p_w_eqWave
  simp only [GWave.mk.injEq, decide_eq_true_eq, ne_eq, bne_iff_ne]
  by_cases h1 : a1 = b1 <;> simp [h1]
  by_cases h2 : a2 = b2 <;> simp [h2]
  by_cases h3 : a3 = b3 <;> simp [h3]
  by_cases h4 : a4 = b4 <;> simp [h4]
  by_cases h5 : a5 = b5 <;> simp [h5]
  by_cases h6 : a6 = b6 <;> simp [h6]
  by_cases h7 : a7 = b7 <;> simp [h7]
  by_cases h8 : a8 = b8 <;> simp [h8]
  by_cases h9 : a9 = b9 <;> simp [h9]
theorem eqWaveS_eq (xs ys : List GWave) (hl : xs.length < 4611686018427387904) : p_w_eqWaveS xs ys = some (decide (xs = ys)) := by
  unfold p_w_eqWaveS
  refine eq_list xs ys hl (fun a b => (p_w_eqWave a b).bind fun r => if (!r) = true then some (some false) else some none) (p_w_eqWaveS__L1 xs ys) (fun m i => ?_) (fun a b => ?_)
  · show p_w_eqWaveS__L1b xs ys _ i = _
    unfold p_w_eqWaveS__L1b
    congr 1
    congr 1; funext a
    congr 1; funext b
    simp only [eqWave_eq, Option.bind_some]
    by_cases h : a = b <;> simp [h, nextE]
  · rw [eqWave_eq]
    by_cases h : a = b <;> simp [h]
theorem toWaveS_eq (xs : List GWave) (hl : xs.length < 1048577) : p_w_toWaveS xs = some xs := by
  unfold p_w_toWaveS
  rw [mkI_of (by omega) (by omega), Option.bind_some]
  have := map_list xs id (by omega) p_w_toWave (fun a _ => rfl) (p_w_toWaveS__L1 xs) (fun m v i => rfl) (List.replicate xs.length (GWave.mk 0 0 0 0 0 0 false 0 0)) (by simp)
  simpa using this
theorem szWaveS_eq (xs : List GWave) (hl : xs.length ≤ 9223372036854775807) : p_w_szWaveS xs 1048576 = some (if 1048576 < xs.length then -1 else 1048576 - (xs.length : Int)) := by
  unfold p_w_szWaveS
  rw [subW_of (by omega) (by omega)]
  by_cases h : 1048576 < xs.length
  · rw [if_pos (by simpa using (by omega : (1048576 : Int) - xs.length < 0)), if_pos h]
  · rw [if_neg (by simpa using (by omega : ¬ ((1048576 : Int) - xs.length < 0))), if_neg h]
/-- What the laws of waves ask, from what both sides count. -/
theorem wave_law (xs : List GWave) (hl : xs.length ≤ 9223372036854775807) (s i : List GWave → Option Int) (h : xs.length < 1048577 → ∃ n, s xs = some n ∧ i xs = some n) :
    ((p_w_szWaveS xs 1048576).bind fun r202 => if decide (r202 < 0) = true then some true else
      (p_w_toWaveS xs).bind fun r501 => (s r501).bind fun r502 => (p_w_toWaveS xs).bind fun r601 => (i r601).bind fun r701 =>
        if decide (r701 ≠ r502) = true then some false else (p_w_toWaveS xs).bind fun r1002 => (p_w_eqWaveS r601 r1002).bind fun r1003 => if (!r1003) = true then some false else some true) = some true := by
  rw [szWaveS_eq xs hl, Option.bind_some]
  by_cases hc : 1048576 < xs.length
  · rw [if_pos hc]; rfl
  · rw [if_neg hc, if_neg (by simpa using (by omega : ¬ ((1048576 : Int) - xs.length < 0)))]
    obtain ⟨n, h1, h2⟩ := h (by omega)
    simp [toWaveS_eq xs (by omega), h1, h2, eqWaveS_eq xs xs (by omega)]
end Go.Proofs.Ytolbhpampnjinaa.Ev
