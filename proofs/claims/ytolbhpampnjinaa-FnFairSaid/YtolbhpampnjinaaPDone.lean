/- Lists of finished beats: sizes, copies, comparisons, marks. No condition but those in each line. -/
import Derived.Test.YtolbhpampnjinaaPScript
namespace Go.Proofs.Ytolbhpampnjinaa.Ev
open Go Go.Proofs
set_option linter.unusedVariables false
set_option linter.unusedSimpArgs false
theorem eqDone_eq (a b : GDone) : p_w_eqDone a b = some (decide (a = b)) := by
  obtain ⟨a1, a2, a3, a4, a5, a6, a7⟩ := a
  obtain ⟨b1, b2, b3, b4, b5, b6, b7⟩ := b
  unfold p_w_eqDone
  simp only [GDone.mk.injEq, decide_eq_true_eq, ne_eq, bne_iff_ne]
  by_cases h1 : a1 = b1 <;> simp [h1]
  by_cases h2 : a2 = b2 <;> simp [h2]
  by_cases h3 : a3 = b3 <;> simp [h3]
  by_cases h4 : a4 = b4 <;> simp [h4]
  by_cases h5 : a5 = b5 <;> simp [h5]
  by_cases h6 : a6 = b6 <;> simp [h6]
  by_cases h7 : a7 = b7 <;> simp [h7]
theorem eqDoneS_eq (xs ys : List GDone) (hl : xs.length < 4611686018427387904) : p_w_eqDoneS xs ys = some (decide (xs = ys)) := by
  unfold p_w_eqDoneS
  refine eq_listM xs ys hl (fun a b => (p_w_eqDone a b).bind fun r => if (!r) = true then some (some false) else some none) (p_w_eqDoneS__L1 xs ys) (fun m i => ?_) (fun a b _ _ => ?_)
  · show p_w_eqDoneS__L1b xs ys _ i = _
    unfold p_w_eqDoneS__L1b
    congr 1; congr 1; funext a; congr 1; funext b
    cases hp : p_w_eqDone a b with
    | none => rfl
    | some r => cases r <;> simp [nextE]
  · rw [eqDone_eq]
    by_cases h : a = b <;> simp [h]
theorem toDoneS_eq (xs : List GDone) (hl : xs.length < 1048577) : p_w_toDoneS xs = some xs := by
  unfold p_w_toDoneS
  rw [mkI_of (by omega) (by omega), Option.bind_some]
  have := map_list xs id (by omega) p_w_toDone (fun a _ => rfl) (p_w_toDoneS__L1 xs) (fun m v i => rfl) (List.replicate xs.length (GDone.mk 0 0 false 0 0 0 0)) (by simp)
  simpa using this
theorem szDoneS_eq (xs : List GDone) {left : Int} (h0 : 0 ≤ left) (h1 : left ≤ 1048576) (hn : xs.length ≤ 9223372036854775807) : p_w_szDoneS xs left = some (leftI left xs.length) := by
  unfold p_w_szDoneS; exact sz_leaf h0 h1 hn
end Go.Proofs.Ytolbhpampnjinaa.Ev
