/- FnExactSameScript over data: it answers true. No condition but those in each line. -/
import Derived.Test.YtolbhpampnjinaaPScript
namespace Go.Proofs.Ytolbhpampnjinaa.Ev
open Go Go.Proofs Go.RowKit
set_option linter.unusedVariables false
set_option linter.unusedSimpArgs false
theorem s_l5Ints_eq (xs ys : List Int) (hl : xs.length < 4611686018427387904) : p_s_l5Ints xs ys = some (decide (xs = ys)) := by
  unfold p_s_l5Ints
  refine eq_listM xs ys hl (fun a b => if decide (a ≠ b) = true then some (some false) else some none) (p_s_l5Ints__L1 xs ys) (fun m i => ?_) (fun a b _ _ => ?_)
  · show p_s_l5Ints__L1b xs ys _ i = _
    unfold p_s_l5Ints__L1b
    congr 1; congr 1; funext a; congr 1; funext b
    by_cases h : a = b <;> simp [h, nextE]
  · by_cases h : a = b <;> simp [h]
theorem slEqual_eq (xs ys : List Int) (hl : xs.length < 4611686018427387904) : p_slices_Equal_int_int xs ys = some (decide (xs = ys)) := by
  unfold p_slices_Equal_int_int
  refine eq_listM xs ys hl (fun a b => if decide (a ≠ b) = true then some (some false) else some none) (p_slices_Equal_int_int__L1 xs ys) (fun m i => ?_) (fun a b _ _ => ?_)
  · show p_slices_Equal_int_int__L1b xs ys _ i = _
    unfold p_slices_Equal_int_int__L1b
    congr 1; congr 1; funext a; congr 1; funext b
    by_cases h : a = b <;> simp [h, nextE]
  · by_cases h : a = b <;> simp [h]
theorem s_SameReq_eq (a b : GReq) (h : a.data_.length < 4611686018427387904) : p_s_SameReq a b = some (decide (a = b)) := by
  obtain ⟨a1, a2, a3, a4, a5, a6⟩ := a
  obtain ⟨b1, b2, b3, b4, b5, b6⟩ := b
  unfold p_s_SameReq
  simp only [s_l5Ints_eq _ _ h, Option.bind_some, GReq.mk.injEq, decide_eq_true_eq, beq_iff_eq]
  by_cases h1 : a1 = b1 <;> simp [h1]
  by_cases h2 : a2 = b2 <;> simp [h2]
  by_cases h3 : a3 = b3 <;> simp [h3]
  by_cases h4 : a4 = b4 <;> simp [h4]
  by_cases h5 : a5 = b5 <;> simp [h5]
theorem i_SameReq_eq (a b : GReq) (h : a.data_.length < 4611686018427387904) : p_i_SameReq a b = some (decide (a = b)) := by
  obtain ⟨a1, a2, a3, a4, a5, a6⟩ := a
  obtain ⟨b1, b2, b3, b4, b5, b6⟩ := b
  unfold p_i_SameReq
  simp only [slEqual_eq _ _ h, Option.bind_some, GReq.mk.injEq, decide_eq_true_eq, beq_iff_eq]
  by_cases h1 : a1 = b1 <;> simp [h1]
  by_cases h2 : a2 = b2 <;> simp [h2]
  by_cases h3 : a3 = b3 <;> simp [h3]
  by_cases h4 : a4 = b4 <;> simp [h4]
  by_cases h5 : a5 = b5 <;> simp [h5]
theorem i_SamePost_eq (a b : GPost) (h : a.tot < 4611686018427387904) : p_i_SameScript_1 a b = some (decide (a = b)) := by
  obtain ⟨a1, a2, a3⟩ := a
  obtain ⟨b1, b2, b3⟩ := b
  unfold p_i_SameScript_1
  simp only [i_SameReq_eq _ _ h, Option.bind_some, GPost.mk.injEq, decide_eq_true_eq]
  by_cases h1 : a1 = b1 <;> simp [h1]
  by_cases h2 : a2 = b2 <;> simp [h2]
theorem i_SamePosts_eq (xs ys : List GPost) (h : totPosts xs < 4611686018427387904) : p_slices_EqualFunc_Post_Post_Post_Post__i_SameScript_1 xs ys = some (decide (xs = ys)) := by
  unfold p_slices_EqualFunc_Post_Post_Post_Post__i_SameScript_1
  refine eq_listM xs ys (by unfold totPosts at h; omega) (fun a b => (p_i_SameScript_1 a b).bind fun r => if (!r) = true then some (some false) else some none) (p_slices_EqualFunc_Post_Post_Post_Post__i_SameScript_1__L1 xs ys) (fun m i => ?_) (fun a b ha _ => ?_)
  · show p_slices_EqualFunc_Post_Post_Post_Post__i_SameScript_1__L1b xs ys _ i = _
    unfold p_slices_EqualFunc_Post_Post_Post_Post__i_SameScript_1__L1b
    congr 1; congr 1; funext a; congr 1; funext b
    cases hp : p_i_SameScript_1 a b with
    | none => rfl
    | some r => cases r <;> simp [nextE]
  · rw [i_SamePost_eq a b (by have := mem_tot ha; omega)]
    by_cases h : a = b <;> simp [h]
theorem i_SameScript_eq (a b : GScript) (h : a.tot < 4611686018427387904) : p_i_SameScript a b = some (decide (a = b)) := by
  unfold GScript.tot at h
  obtain ⟨a1, a2, a3⟩ := a
  obtain ⟨b1, b2, b3⟩ := b
  unfold p_i_SameScript
  simp only at h
  simp only [i_SamePosts_eq a1 b1 (by omega), slEqual_eq a2 b2 (by omega), slEqual_eq a3 b3 (by omega), Option.bind_some, GScript.mk.injEq, decide_eq_true_eq]
  by_cases h2 : a2 = b2 <;> simp [h2]
  by_cases h3 : a3 = b3 <;> simp [h3]
theorem s_SameScript_eq (a b : GScript) (h : a.tot < 4611686018427387904) : p_s_SameScript a b = some (decide (a = b)) := by
  unfold GScript.tot at h
  obtain ⟨a1, a2, a3⟩ := a
  obtain ⟨b1, b2, b3⟩ := b
  unfold p_s_SameScript
  simp only at h
  simp only [s_l5Ints_eq a2 b2 (by omega), s_l5Ints_eq a3 b3 (by omega), Option.bind_some, GScript.mk.injEq]
  by_cases h2 : a2 = b2
  · by_cases h3 : a3 = b3
    · have key : (if decide ((a1.length : Int) ≠ (b1.length : Int)) = true then some false else p_s_SameScript__L1 ⟨a1, a2, a3⟩ ⟨b1, b2, b3⟩ FU 0) = some (decide (a1 = b1)) := by
        refine eq_listM a1 b1 (by unfold totPosts at h; omega) (fun a b => if decide (a.at_ ≠ b.at_) = true then some (some false) else if decide (a.who ≠ b.who) = true then some (some false) else (p_s_SameReq a.req b.req).bind fun r => if (!r) = true then some (some false) else some none) (p_s_SameScript__L1 ⟨a1, a2, a3⟩ ⟨b1, b2, b3⟩) (fun m i => ?_) (fun a b ha _ => ?_)
        · show p_s_SameScript__L1b _ _ _ i = _
          unfold p_s_SameScript__L1b
          congr 1; congr 1; funext a; congr 1; funext b
          by_cases h4 : a.at_ = b.at_ <;> simp [h4, nextE]
          by_cases h5 : a.who = b.who <;> simp [h5, nextE]
          cases hp : p_s_SameReq a.req b.req with
          | none => rfl
          | some r => cases r <;> simp [nextE]
        · have hta : a.req.data_.length < 4611686018427387904 := by have := mem_tot ha; unfold GPost.tot at this; omega
          rw [s_SameReq_eq a.req b.req hta]
          obtain ⟨c1, c2, c3⟩ := a
          obtain ⟨d1, d2, d3⟩ := b
          simp only [GPost.mk.injEq]
          by_cases h4 : c1 = d1 <;> simp [h4]
          by_cases h5 : c2 = d2 <;> simp [h5]
          by_cases h6 : c3 = d3 <;> simp [h6]
      simp only [h2, h3, decide_true, Bool.not_true, Bool.false_eq_true, if_false, p_s_SameScript__J2, and_true] at key ⊢
      rw [← h2, ← h3] at *
      exact key
    · simp [h2, h3, p_s_SameScript__J2]
  · simp [h2, p_s_SameScript__J2]
theorem law_w_FnExactSameScript (a b : GScript) (ha : a.ok) (hb : b.ok) : p_w_FnExactSameScript a b = some true := by
  unfold p_w_FnExactSameScript
  rw [szScript_eq a (by omega) (by omega) (ok_script ha), Option.bind_some]
  by_cases hc : (1048576 : Int) < (a.tot : Int)
  · rw [leftI_out hc]; rfl
  · rw [leftI_in hc, if_neg (by simpa using (by omega : ¬ ((1048576 : Int) - (a.tot : Int) < 0)))]
    rw [szScript_eq b (by omega) (by omega) (ok_script hb), Option.bind_some]
    by_cases hd : (1048576 : Int) - (a.tot : Int) < (b.tot : Int)
    · rw [leftI_out hd]; rfl
    · rw [leftI_in hd, if_neg (by simpa using (by omega : ¬ ((1048576 : Int) - (a.tot : Int) - (b.tot : Int) < 0)))]
      simp [toScript_eq a (by omega), toScript_eq b (by omega), s_SameScript_eq a b (by omega), i_SameScript_eq a b (by omega), eqScript_eq a a (by omega), eqScript_eq b b (by omega)]
end Go.Proofs.Ytolbhpampnjinaa.Ev
