/- FnExactLastPost over data: it answers true. No condition but those in each line. -/
import Derived.Test.YtolbhpampnjinaaPScript
namespace Go.Proofs.Ytolbhpampnjinaa.Ev
open Go Go.Proofs Go.RowKit
set_option linter.unusedVariables false
set_option linter.unusedSimpArgs false
theorem s_LastPost_eq (s : GScript) (hl : s.posts.length < 4611686018427387904) : p_s_LastPost s = some (s.posts.foldl (fun m p => maxI m p.at_) (-1)) := by
  unfold p_s_LastPost
  rw [loop_all (ρ := Int) s.posts hl (fun (p : GPost) m => some (.inl (maxI m p.at_))) (fun m => some m) (p_s_LastPost__L1 s) (fun m v i => rfl) (-1)]
  exact runL_fold _ _ (fun m (p : GPost) => maxI m p.at_) (fun _ _ => True) (fun a l s _ => ⟨rfl, trivial⟩) _ _ trivial
theorem i_LastPost_eq (s : GScript) (hl : s.posts.length < 4611686018427387904) : p_i_LastPost s = some (s.posts.foldl (fun m p => maxI m p.at_) (-1)) := by
  unfold p_i_LastPost
  rw [loop_all (ρ := Int) s.posts hl (fun (p : GPost) m => some (.inl (maxI m p.at_))) (fun m => some m) (p_i_LastPost__L1 s) (fun m v i => rfl) (-1)]
  exact runL_fold _ _ (fun m (p : GPost) => maxI m p.at_) (fun _ _ => True) (fun a l s _ => ⟨rfl, trivial⟩) _ _ trivial
theorem law_w_FnExactLastPost (s : GScript) (h : s.ok) : p_w_FnExactLastPost s = some true := by
  unfold p_w_FnExactLastPost
  rw [szScript_eq s (by omega) (by omega) (ok_script h), Option.bind_some]
  by_cases hc : (1048576 : Int) < (s.tot : Int)
  · rw [leftI_out hc]; rfl
  · rw [leftI_in hc, if_neg (by simpa using (by omega : ¬ ((1048576 : Int) - (s.tot : Int) < 0)))]
    have hp : s.posts.length < 4611686018427387904 := by unfold GScript.tot totPosts at hc; omega
    simp [toScript_eq s (by omega), s_LastPost_eq s hp, i_LastPost_eq s hp, eqScript_eq s s (by omega)]
end Go.Proofs.Ytolbhpampnjinaa.Ev
