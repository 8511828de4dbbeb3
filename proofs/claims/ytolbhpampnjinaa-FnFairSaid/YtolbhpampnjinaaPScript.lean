/- Requests, posts, scripts: sizes, copies, comparisons. No condition but those in each line. -/
import Derived.Test.YtolbhpampnjinaaPHarn
namespace Go.Proofs.Ytolbhpampnjinaa.Ev
open Go Go.Proofs Go.RowKit
set_option linter.unusedVariables false
set_option linter.unusedSimpArgs false
/-- How many cells of lists. -/
def GPost.tot (p : GPost) : Nat := p.req.data_.length
def totPosts (l : List GPost) : Nat := l.length + (l.map GPost.tot).sum
def GScript.tot (s : GScript) : Nat := totPosts s.posts + s.waits.length + s.says.length
theorem if_leftI {left : Int} {n : Nat} (h0 : 0 ≤ left) : (if decide (leftI left n < 0) = true then some (-1) else some (leftI left n)) = some (leftI left n) := by
  by_cases h : leftI left n < 0
  · rw [if_pos (by simpa using h)]
    unfold leftI at h ⊢
    split at h
    · rename_i hh; rw [if_pos hh]
    · omega
  · rw [if_neg (by simpa using h)]
theorem szReq_eq (r : GReq) {left : Int} (h0 : 0 ≤ left) (h1 : left ≤ 1048576) (hn : r.data_.length ≤ 9223372036854775807) : p_w_szReq r left = some (leftI left r.data_.length) := by
  unfold p_w_szReq
  rw [szIntS_eq _ h0 h1 hn, Option.bind_some, if_leftI h0]
theorem szPost_eq (p : GPost) {left : Int} (h0 : 0 ≤ left) (h1 : left ≤ 1048576) (hn : p.tot ≤ 9223372036854775807) : p_w_szPost p left = some (leftI left p.tot) := by
  unfold p_w_szPost
  rw [szReq_eq _ h0 h1 hn, Option.bind_some, if_leftI h0]
  rfl
theorem leftI_le {left : Int} {n : Nat} (h0 : 0 ≤ left) (h1 : left ≤ 1048576) : leftI left n ≤ 1048576 := by unfold leftI; split <;> omega
theorem leftI_out {left : Int} {n : Nat} (h : left < (n : Int)) : leftI left n = -1 := by unfold leftI; rw [if_pos h]
theorem leftI_in {left : Int} {n : Nat} (h : ¬ left < (n : Int)) : leftI left n = left - n := by unfold leftI; rw [if_neg h]
theorem szPostS_eq (l : List GPost) {left : Int} (h0 : 0 ≤ left) (h1 : left ≤ 1048576) (hl : l.length ≤ 9223372036854775807) (hn : ∀ p ∈ l, p.tot ≤ 9223372036854775807) : p_w_szPostS l left = some (leftI left (totPosts l)) := by
  unfold p_w_szPostS
  rw [subW_of (by omega) (by omega)]
  by_cases hc : left < (l.length : Int)
  · rw [if_pos (by simpa using (by omega : left - (l.length : Int) < 0)), leftI_out (by unfold totPosts; omega)]
  · rw [if_neg (by simpa using (by omega : ¬ (left - (l.length : Int) < 0)))]
    have hs : l.length < 4611686018427387904 := by omega
    have key := loop_all l hs (fun p s => (p_w_szPost p s).bind fun r => if decide (r < 0) = true then some (.inr (-1)) else some (.inl r)) (fun s => some s) (p_w_szPostS__L1 l left) (fun m s i => by
      show p_w_szPostS__L1b l left _ s i = _
      unfold p_w_szPostS__L1b
      congr 1; congr 1; funext a
      cases hp : p_w_szPost a s with
      | none => rfl
      | some r =>
        simp only [Option.bind_some]
        by_cases hr : r < 0 <;> simp [hr, goL]) (left - l.length)
    rw [key]
    have run : ∀ (xs : List GPost) (s : Int), 0 ≤ s → s ≤ 1048576 → (∀ p ∈ xs, p.tot ≤ 9223372036854775807) → runL (fun p s => (p_w_szPost p s).bind fun r => if decide (r < 0) = true then some (.inr (-1)) else some (.inl r)) (fun s => some s) xs s = some (leftI s (xs.map GPost.tot).sum) := by
      intro xs
      induction xs with
      | nil => intro s hs0 _ _; simp [runL, leftI]; omega
      | cons p xs ih =>
        intro s hs0 hs1 hp
        simp only [runL, szPost_eq p hs0 hs1 (hp p List.mem_cons_self), Option.bind_some, List.map_cons, List.sum_cons]
        by_cases hr : s < (p.tot : Int)
        · rw [if_pos (by simpa using (leftI_neg hs0).2 hr), leftI_out (by omega)]
          rfl
        · rw [if_neg (by simpa using fun h => hr ((leftI_neg hs0).1 h)), leftI_in hr]
          simp only [Option.bind_some]
          rw [ih _ (by omega) (by omega) (fun q hq => hp q (List.mem_cons_of_mem _ hq))]
          unfold leftI
          by_cases h3 : s - (p.tot : Int) < ((xs.map GPost.tot).sum : Nat)
          · rw [if_pos h3, if_pos (by omega)]
          · rw [if_neg h3, if_neg (by omega)]
            simp only [Option.some.injEq]; omega
    rw [run l _ (by omega) (by omega) hn]
    unfold leftI totPosts
    by_cases h3 : left - (l.length : Int) < ((l.map GPost.tot).sum : Nat)
    · rw [if_pos h3, if_pos (by omega)]
    · rw [if_neg h3, if_neg (by omega)]
      simp only [Option.some.injEq]; omega
theorem szScript_eq (s : GScript) {left : Int} (h0 : 0 ≤ left) (h1 : left ≤ 1048576) (hok : s.posts.length ≤ 9223372036854775807 ∧ (∀ p ∈ s.posts, p.tot ≤ 9223372036854775807) ∧ s.waits.length ≤ 9223372036854775807 ∧ s.says.length ≤ 9223372036854775807) :
    p_w_szScript s left = some (leftI left s.tot) := by
  unfold p_w_szScript
  rw [szPostS_eq _ h0 h1 hok.1 hok.2.1, Option.bind_some]
  unfold GScript.tot
  by_cases hc : left < (totPosts s.posts : Int)
  · rw [if_pos (by simpa using (leftI_neg h0).2 hc), leftI_out (by omega)]
  · rw [if_neg (by simpa using fun h => hc ((leftI_neg h0).1 h)), leftI_in hc, szIntS_eq _ (by omega) (by omega) hok.2.2.1, Option.bind_some]
    by_cases hc2 : left - (totPosts s.posts : Int) < (s.waits.length : Int)
    · rw [if_pos (by simpa using (leftI_neg (by omega)).2 hc2), leftI_out (by omega)]
    · rw [if_neg (by simpa using fun h => hc2 ((leftI_neg (by omega)).1 h)), leftI_in hc2, szIntS_eq _ (by omega) (by omega) hok.2.2.2, Option.bind_some, if_leftI (by omega)]
      unfold leftI
      by_cases h3 : left - (totPosts s.posts : Int) - (s.waits.length : Int) < (s.says.length : Int)
      · rw [if_pos h3, if_pos (by omega)]
      · rw [if_neg h3, if_neg (by omega)]
        simp only [Option.some.injEq]; omega
theorem ok_script {s : GScript} (h : s.ok) : s.posts.length ≤ 9223372036854775807 ∧ (∀ p ∈ s.posts, p.tot ≤ 9223372036854775807) ∧ s.waits.length ≤ 9223372036854775807 ∧ s.says.length ≤ 9223372036854775807 := by
  unfold GScript.ok maxLen at h
  refine ⟨by have := h.1.1; omega, fun p hp => ?_, by have := h.2.1.1; omega, by have := h.2.2.1; omega⟩
  have := h.1.2 p hp
  unfold GPost.ok GReq.ok maxLen at this
  unfold GPost.tot
  have := this.2.2.2.2.2.2.2.1
  omega
theorem mem_tot {l : List GPost} {p : GPost} (h : p ∈ l) : p.tot ≤ totPosts l := by
  unfold totPosts
  have : p.tot ≤ (l.map GPost.tot).sum := by
    induction l with
    | nil => simp at h
    | cons q l ih =>
      simp only [List.map_cons, List.sum_cons]
      rcases List.mem_cons.1 h with rfl | h
      · omega
      · have := ih h; omega
  omega
theorem toReq_eq (r : GReq) (h : r.data_.length < 1048577) : p_w_toReq r = some r := by
  unfold p_w_toReq
  rw [toIntS_eq _ h]; rfl
theorem toPost_eq (p : GPost) (h : p.tot < 1048577) : p_w_toPost p = some p := by
  unfold p_w_toPost
  rw [toReq_eq _ h]; rfl
theorem toPostS_eq (l : List GPost) (h : totPosts l < 1048577) : p_w_toPostS l = some l := by
  have hl : l.length < 1048577 := by unfold totPosts at h; omega
  unfold p_w_toPostS
  rw [mkI_of (by omega) (by omega), Option.bind_some]
  have := map_list l id (by omega) p_w_toPost (fun a ha => toPost_eq a (by have := mem_tot ha; omega)) (p_w_toPostS__L1 l) (fun m v i => rfl) (List.replicate l.length (GPost.mk 0 0 (GReq.mk false 0 0 0 false []))) (by simp)
  simpa using this
theorem toScript_eq (s : GScript) (h : s.tot < 1048577) : p_w_toScript s = some s := by
  unfold GScript.tot at h
  unfold p_w_toScript
  rw [toPostS_eq _ (by omega), Option.bind_some, toIntS_eq _ (by omega), Option.bind_some, toIntS_eq _ (by omega)]; rfl
theorem eqReq_eq (a b : GReq) (h : a.data_.length < 4611686018427387904) : p_w_eqReq a b = some (decide (a = b)) := by
  obtain ⟨a1, a2, a3, a4, a5, a6⟩ := a
  obtain ⟨b1, b2, b3, b4, b5, b6⟩ := b
  unfold p_w_eqReq
  simp only [eqIntS_eq _ _ h, Option.bind_some, GReq.mk.injEq, decide_eq_true_eq, ne_eq, bne_iff_ne]
  by_cases h1 : a1 = b1 <;> simp [h1]
  by_cases h2 : a2 = b2 <;> simp [h2]
  by_cases h3 : a3 = b3 <;> simp [h3]
  by_cases h4 : a4 = b4 <;> simp [h4]
  by_cases h5 : a5 = b5 <;> simp [h5]
  by_cases h6 : a6 = b6 <;> simp [h6]
theorem eqPost_eq (a b : GPost) (h : a.tot < 4611686018427387904) : p_w_eqPost a b = some (decide (a = b)) := by
  obtain ⟨a1, a2, a3⟩ := a
  obtain ⟨b1, b2, b3⟩ := b
  unfold p_w_eqPost
  simp only [eqReq_eq _ _ h, Option.bind_some, GPost.mk.injEq, decide_eq_true_eq, ne_eq]
  by_cases h1 : a1 = b1 <;> simp [h1]
  by_cases h2 : a2 = b2 <;> simp [h2]
  by_cases h3 : a3 = b3 <;> simp [h3]
theorem eqPostS_eq (xs ys : List GPost) (h : totPosts xs < 4611686018427387904) : p_w_eqPostS xs ys = some (decide (xs = ys)) := by
  unfold p_w_eqPostS
  refine eq_listM xs ys (by unfold totPosts at h; omega) (fun a b => (p_w_eqPost a b).bind fun r => if (!r) = true then some (some false) else some none) (p_w_eqPostS__L1 xs ys) (fun m i => ?_) (fun a b ha _ => ?_)
  · show p_w_eqPostS__L1b xs ys _ i = _
    unfold p_w_eqPostS__L1b
    congr 1; congr 1; funext a; congr 1; funext b
    cases hp : p_w_eqPost a b with
    | none => rfl
    | some r => cases r <;> simp [nextE]
  · rw [eqPost_eq a b (by have := mem_tot ha; omega)]
    by_cases h : a = b <;> simp [h]
theorem eqScript_eq (a b : GScript) (h : a.tot < 4611686018427387904) : p_w_eqScript a b = some (decide (a = b)) := by
  unfold GScript.tot at h
  obtain ⟨a1, a2, a3⟩ := a
  obtain ⟨b1, b2, b3⟩ := b
  unfold p_w_eqScript
  simp only at h
  simp only [eqPostS_eq a1 b1 (by omega), eqIntS_eq a2 b2 (by omega), eqIntS_eq a3 b3 (by omega), Option.bind_some, GScript.mk.injEq]
  by_cases h1 : a1 = b1 <;> simp [h1]
  by_cases h2 : a2 = b2 <;> simp [h2]
  by_cases h3 : a3 = b3 <;> simp [h3]
end Go.Proofs.Ytolbhpampnjinaa.Ev
