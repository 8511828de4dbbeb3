/- FnPhases over data: it answers true. No condition but those in each line. -/
import Derived.Test.YtolbhpampnjinaaPDraw
import Derived.KernelRfl
namespace Go.Proofs.Ytolbhpampnjinaa.Ev
open Go Go.Proofs Go.RowKit
set_option linter.unusedVariables false
set_option linter.unusedSimpArgs false
/-- What is asked of what was drawn. -/
def phG (a : GApb) (n : Int) : Option Bool :=
    (p_i_ApbTick a).bind fun r401 =>
    (p_s_ApbTick a).bind fun r501 =>
    (p_i_ApbStates n).bind fun r701 =>
    if (!(decide (r401.1.state = r501.1.state) && (decide (r401.1.left = r501.1.left) && true))) = true then (
      p_w_FnPhases__J2 [] n r701 true)
    else (
      if (r401.2 != r501.2) = true then (
        p_w_FnPhases__J2 [] n r701 true)
      else (
        (p_i_ApbOk a).bind fun r810 =>
        (p_s_ApbOk a).bind fun r812 =>
        if (r810 != r812) = true then (
          p_w_FnPhases__J2 [] n r701 true)
        else (
          (p_i_ApbOk a).bind fun r817 =>
          if r817 = true then (
            (p_i_ApbOk r401.1).bind fun r820 =>
            p_w_FnPhases__J2 [] n r701 (!r820))
          else (
            p_w_FnPhases__J2 [] n r701 false))))
theorem phases_L1 (x : List Int) : ∀ (m : Nat) (v : Int) (l : List Int) (k : Int), p_w_FnPhases__L1 x m v l k = p_w_FnPhases__L1 [] m v l k := by
  intro m
  induction m with
  | zero => intro v l k; rfl
  | succ m ih =>
    intro v l k
    show p_w_FnPhases__L1b x (p_w_FnPhases__L1 x m) v l k = p_w_FnPhases__L1b [] (p_w_FnPhases__L1 [] m) v l k
    rw [show p_w_FnPhases__L1 x m = p_w_FnPhases__L1 [] m from funext fun v => funext fun l => funext fun k => ih v l k]
    rfl
theorem phases_J2 (x : List Int) (v : Int) (l : List Int) (b : Bool) : p_w_FnPhases__J2 x v l b = p_w_FnPhases__J2 [] v l b := by
  unfold p_w_FnPhases__J2 p_w_FnPhases__J3
  simp only [phases_L1 x]
theorem ph_all : ([-1, 0, 1, 2, 3].all fun s => [-1, 0, 1, 2, 3, 4].all fun l => [-1, 0, 1, 2, 3, 4].all fun n => phG (GApb.mk s l) n == some true) = true := by kernel_rfl
theorem law_w_FnPhases (x : List Int) (h : x.length ≤ maxLen ∧ ∀ y ∈ x, (Lit.int .u8 y).wf = true) : p_w_FnPhases x = some true := by
  unfold p_w_FnPhases p_w_big
  rw [Option.bind_some]
  by_cases hc : (x.length : Int) > 1048576
  · rw [if_pos (by simpa using hc)]
  · rw [if_neg (by simpa using hc)]
    obtain ⟨s, l, e, hs, hl⟩ := DrawApbTick_ok x (by omega)
    obtain ⟨n, e2, hn⟩ := DrawApbStates_ok x (by omega)
    simp only [e, e2, Option.bind_some, phases_J2 x]
    have hp := ph_all
    simp only [List.all_eq_true] at hp
    have h1 := hp s (by simp; omega) l (by simp; omega) n (by simp; omega)
    have h2 : phG (GApb.mk s l) n = some true := by simpa using h1
    exact h2
end Go.Proofs.Ytolbhpampnjinaa.Ev
