/- FnExactValuesOf over data: it answers true. No condition but those in each line. -/
import Derived.Test.YtolbhpampnjinaaPDone
namespace Go.Proofs.Ytolbhpampnjinaa.Ev
open Go Go.Proofs Go.RowKit
set_option linter.unusedVariables false
set_option linter.unusedSimpArgs false
theorem markDoneS_eq (xs : List GDone) (k : Int) (hl : xs.length < 1048577) (h0 : 0 ≤ k) (h1 : k ≤ 16777216) : ∃ zs, p_w_markDoneSq xs k = some (k + 7 * xs.length, zs) ∧ zs.length = xs.length := by
  have key : ∀ (m j : Nat) (ys : List GDone), j ≤ xs.length → xs.length - j < m → ys.length = xs.length → ∃ zs, p_w_markDoneSq__L1 xs k m ys (k + 7 * j) j = some (k + 7 * xs.length, zs) ∧ zs.length = xs.length := by
    intro m
    induction m with
    | zero => intro j _ _ h; omega
    | succ m ih =>
      intro j ys hj hm hy
      have e : p_w_markDoneSq__L1 xs k (m + 1) ys (k + 7 * j) j = p_w_markDoneSq__L1b xs k (p_w_markDoneSq__L1 xs k m) ys (k + 7 * j) j := rfl
      rw [e]
      unfold p_w_markDoneSq__L1b
      by_cases hc : j < ys.length
      · have h2 : decide ((j : Int) < (ys.length : Int)) = true := by simpa using hc
        rw [if_pos h2]
        have w : ∀ i : Int, 0 ≤ i → i ≤ 7 → addW (k + 7 * (j : Int) + i) 1 = k + 7 * (j : Int) + i + 1 := fun i _ _ => addW_of (by omega) (by omega)
        have w0 : addW (k + 7 * (j : Int)) 1 = k + 7 * (j : Int) + 1 := addW_of (by omega) (by omega)
        have w1 : addW (k + 7 * (j : Int) + 1) 1 = k + 7 * (j : Int) + 2 := by rw [w 1 (by omega) (by omega)]; omega
        have w2 : addW (k + 7 * (j : Int) + 2) 1 = k + 7 * (j : Int) + 3 := by rw [w 2 (by omega) (by omega)]; omega
        have w3 : addW (k + 7 * (j : Int) + 3) 1 = k + 7 * (j : Int) + 4 := by rw [w 3 (by omega) (by omega)]; omega
        have w4 : addW (k + 7 * (j : Int) + 4) 1 = k + 7 * (j : Int) + 5 := by rw [w 4 (by omega) (by omega)]; omega
        have w5 : addW (k + 7 * (j : Int) + 5) 1 = k + 7 * (j : Int) + 6 := by rw [w 5 (by omega) (by omega)]; omega
        have w6 : addW (k + 7 * (j : Int) + 6) 1 = k + 7 * (j : Int) + 7 := by rw [w 6 (by omega) (by omega)]; omega
        simp only [w0, w1, w2, w3, w4, w5, w6, setO, Option.bind_some, Int.toNat_natCast]
        rw [idx_get hc, Option.bind_some]
        have g : ∀ (zs : List GDone), zs.length = xs.length → idx zs (j : Int) = some (zs[j]?.getD (GDone.mk 0 0 false 0 0 0 0)) := fun zs hz => by
          rw [idx_get (by omega : j < zs.length), List.getElem?_eq_getElem (by omega)]; rfl
        rw [g _ (by simp [hy]), Option.bind_some, g _ (by simp [hy]), Option.bind_some, g _ (by simp [hy]), Option.bind_some, g _ (by simp [hy]), Option.bind_some, g _ (by simp [hy]), Option.bind_some, g _ (by simp [hy]), Option.bind_some]
        rw [addW_nat (by omega)]
        have := ih (j + 1)
        rw [show k + 7 * ((j + 1 : Nat) : Int) = k + 7 * (j : Int) + 7 by omega] at this
        exact this _ (by omega) (by omega) (by simp [hy])
      · have h2 : ¬ decide ((j : Int) < (ys.length : Int)) = true := by simpa using hc
        rw [if_neg h2]
        have hj2 : j = xs.length := by omega
        subst hj2
        exact ⟨ys, by simp [lenE, hy], hy⟩
  have := key FU 0 xs (Nat.zero_le _) (by have := FU_big; omega) rfl
  simpa [p_w_markDoneSq] using this
theorem values_loop (xs : List GDone) (hl : xs.length < 1048577) (L : Nat → List Int → Int → Option (List Int)) (hL : ∀ m s i, L (m + 1) s i = if decide (i < (xs.length : Int)) = true then (idx xs i).bind fun a => (appI 8 s [a.value]).bind fun z => L m z (addW i 1) else some s) : L FU [] 0 = some (xs.map GDone.value) := by
  have h := loop_all (ρ := List Int) xs (by omega) (fun (a : GDone) s => (appI 8 s [a.value]).bind fun z => some (.inl z)) (fun s => some s) L (fun m s i => by
    rw [hL]
    congr 1; congr 1; funext a
    cases hp : appI 8 s [a.value] with
    | none => rfl
    | some r => rfl) []
  rw [h]
  have := runL_fold (ρ := List Int) (fun (a : GDone) s => (appI 8 s [a.value]).bind fun z => some (.inl z)) (fun s => some s) (fun s a => s ++ [a.value]) (fun l s => s.length + l.length ≤ 1048576) (fun a l s hs => by
    simp only [List.length_cons] at hs
    rw [appI_of (by simp; omega) (by simp; omega)]
    exact ⟨rfl, by simp; omega⟩) xs [] (by simp; omega)
  rw [this]
  have e : ∀ (l : List GDone) (s : List Int), l.foldl (fun s a => s ++ [a.value]) s = s ++ l.map GDone.value := by
    intro l
    induction l with
    | nil => intro s; simp
    | cons a l ih => intro s; simp [ih]
  rw [e]; rfl
theorem law_w_FnExactValuesOf (xs : List GDone) (h : xs.length ≤ maxLen ∧ ∀ x ∈ xs, x.ok) : p_w_FnExactValuesOf xs = some true := by
  have hm : xs.length ≤ 9223372036854775807 := by have := h.1; unfold maxLen at this; omega
  unfold p_w_FnExactValuesOf
  rw [szDoneS_eq xs (by omega) (by omega) hm, Option.bind_some]
  by_cases hc : (1048576 : Int) < (xs.length : Int)
  · rw [leftI_out hc]; rfl
  · rw [leftI_in hc, if_neg (by simpa using (by omega : ¬ ((1048576 : Int) - (xs.length : Int) < 0)))]
    have hl : xs.length < 1048577 := by omega
    have e1 : p_s_ValuesOf xs = some (xs.map GDone.value) := values_loop xs hl _ (fun m s i => rfl)
    have e2 : p_i_ValuesOf xs = some (xs.map GDone.value) := values_loop xs hl _ (fun m s i => rfl)
    have e3 : p_w_eqIntS (xs.map GDone.value) (xs.map GDone.value) = some true := by rw [eqIntS_eq _ _ (by simp; omega)]; simp
    have hv : (xs.map GDone.value).length < 1048577 := by simp; omega
    have e4 : ∀ v7 : Int, 0 ≤ v7 → p_w_FnExactValuesOf__J1 xs (xs.map GDone.value) (xs.map GDone.value) v7 = some true := by
      intro v7 hv7
      unfold p_w_FnExactValuesOf__J1
      rw [if_neg (by simpa using (by omega : ¬ v7 < 0)), e3, Option.bind_some]
      unfold p_w_FnExactValuesOf__J2
      simp only [Bool.not_true, Bool.false_eq_true, if_false]
      by_cases hz : xs = []
      · subst hz
        simp only [List.map_nil, List.length_nil, decide_true, if_true, markIntS_nil, Option.bind_some]
        unfold p_w_FnExactValuesOf__J3
        have q1 : p_w_heldIntS [] 1 = some 1 := by rw [heldIntS_eq _ _ (by simp) (by omega) (by omega)]; rfl
        have q2 : p_w_eqIntS [] [] = some true := by rw [eqIntS_eq _ _ (by simp)]; rfl
        simp only [List.map_nil] at e2
        simp [q1, q2, toDoneS_eq [] (by simp), e2]
      · have hne : ¬ decide ((xs.map GDone.value).length = 0) = true := by simpa using hz
        rw [if_neg hne, markIntS_eq _ _ hv (by omega) (by omega)]
        simp only [Option.bind_some]
        have q0 : lenE (xs.map GDone.value) ((List.range (xs.map GDone.value).length).map (fun i : Nat => (1 : Int) + (i : Int))) = some () := by simp [lenE]
        rw [q0, Option.bind_some]
        unfold p_w_FnExactValuesOf__J3
        have q1 : p_w_heldIntS ((List.range (xs.map GDone.value).length).map (fun i : Nat => (1 : Int) + (i : Int))) 1 = some (1 + ((xs.map GDone.value).length : Int)) := by
          rw [heldIntS_eq _ _ (by simp; omega) (by omega) (by omega), if_pos (by simp)]
          simp
        rw [q1, Option.bind_some]
        have n1 : ¬ decide ((1 : Int) + ((xs.map GDone.value).length : Int) < 0) = true := by simp; omega
        rw [if_neg n1, if_neg (by simp)]
        simp only [toDoneS_eq xs hl, e2, e3, Option.bind_some, Bool.not_true, Bool.false_eq_true, if_false]
        rw [if_neg n1, if_neg (by simp)]
    simp only [toDoneS_eq xs hl, Option.bind_some, e1, e2, e3, Bool.not_true, Bool.false_eq_true, if_false, eqDoneS_eq xs xs (by omega), decide_true]
    by_cases hz : xs = []
    · subst hz
      simp only [List.length_nil, decide_true, if_true]
      have : p_w_markDoneS [] 1 = some (1, []) := rfl
      rw [this]
      exact e4 1 (by omega)
    · have hne : ¬ decide (xs.length = 0) = true := by simpa using hz
      obtain ⟨zs, z1, z2⟩ := markDoneS_eq xs 1 hl (by omega) (by omega)
      rw [if_neg hne, z1]
      simp only [Option.bind_some, lenE, z2, if_true]
      exact e4 _ (by omega)
end Go.Proofs.Ytolbhpampnjinaa.Ev
